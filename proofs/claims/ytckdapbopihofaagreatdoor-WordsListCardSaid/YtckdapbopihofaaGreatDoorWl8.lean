import Derived.ArgAppend
import Derived.Test.YtckdapbopihofaaGreatDoorWl7
/- The first words, in order; how many there are of a length (WordsList). Conditions: none beyond the statement's own. A part of that proof: Ref43, Ref44, LawW, Ref47, App1, LawJ, Word5, Word6, LawK, LawN, Ref48, LawP. Conditions: none beyond the statement's own. By an AI agent; no person has read it. -/
set_option linter.unusedVariables false
set_option linter.unusedSimpArgs false
set_option maxRecDepth 8000
set_option maxHeartbeats 4000000
namespace Go.Clt
open Go Go.RowKit Go.Proofs
structure RAu (F:Nat→Prop) (w:World) (t:R8) (As:Option Addr) (pf pl bt:Nat) (bf:List Nat):Prop where
 rs:Rd F w 4 As (O3 t).length (F5 (O3 t))
 ff:F pf
 first:Blk w pf (I6 (J1 t 0 (B8 t) false)) 3
 fl:F pl
 last:Blk w pl (I6 (J1 t 0 (B8 t) true)) 3
 ft:F bt
 tab:Blk w bt (X1 (B8 t) bf) 24
 rows:RowsB F w (B8 t) bf (V0 t)
theorem RAu.q {F:Nat→Prop} {w w':World} {t:R8} {As:Option Addr} {pf pl bt:Nat} {bf:List Nat} {S:List Nat} (h:RAu F w t As pf pl bt bf) (c:Chg S w w') (hS:∀ b∈S,¬ F b):RAu F w' t As pf pl bt bf:=
 ⟨h.rs.q c hS,h.ff,h.first.q c (fun hm=>hS _ hm h.ff),h.fl,h.last.q c (fun hm=>hS _ hm h.fl),h.ft,h.tab.q c (fun hm=>hS _ hm h.ft),h.rows.q c hS⟩
theorem RAu.u {F:Nat→Prop} {w w':World} {t:R8} {As:Option Addr} {pf pl bt:Nat} {bf:List Nat} (h:RAu F w t As pf pl bt bf) (c:Chg [] w w'):RAu F w' t As pf pl bt bf:=h.q c (by simp)
def Br1 (t:R8) (As:Option Addr) (cS pf pl bt:Nat):List Value:=[.slice As (O3 t).length cS,.int .i64 (N5 t),.slice (some ⟨pf,0,none⟩) (B8 t) (B8 t),.slice (some ⟨pl,0,none⟩) (B8 t) (B8 t),.slice (some ⟨bt,0,none⟩) (B8 t) (B8 t)]
theorem RAuto.open {F:Nat→Prop} {w:World} {t:R8} {cs:List Value} (h:RAuto F w t cs):∃ As cS pf pl bt bf,cs=Br1 t As cS pf pl bt∧RAu F w t As pf pl bt bf:=by
 obtain ⟨As,cS,pf,pl,bt,bs,h1,h2,h3,h4,h5,h6,h7,h8,h9⟩:=h;exact ⟨As,cS,pf,pl,bt,bs,h1,h2,h3,h4,h5,h6,h7,h8,h9⟩
def Dr4 (t:R8) (L:List Nat) (i p:Nat):Bool:=((O3 t).getD p 0).testBit (L.getD i 0)
def inF (t:R8) (f:BagF) (p:Nat) (q:Nat):Int:=(List.range q).foldl (fun a x=>W9 a (Ac0 (f x) (((V0 t).getD x []).getD p 0))) 0
theorem Cb4 (t:R8) (f:BagF) (p q:Nat):inF t f p (q+1)=W9 (inF t f p q) (Ac0 (f q) (((V0 t).getD q []).getD p 0)):=by
 unfold inF;rw [Eo6,En4,Ep3,Eq3]
theorem inF_ok (t:R8) (f:BagF) (p:Nat):∀ q,0≤inF t f p q∧inF t f p q≤9223372036854775807
 |0=>by unfold inF;rw [List.range_zero,Eq3];omega
 |q+1=>by rw [Cb4];exact K7 _ _
def Ad0 (t:R8) (L:List Nat):Nat→BagF
 |0=>fun p=>if Dr4 t L 0 p then (J1 t 0 (B8 t) false).getD p 0 else 0
 |i+1=>fun p=>if Dr4 t L (i+1) p then inF t (Ad0 t L i) p (B8 t) else 0
def Cs3 (t:R8) (L:List Nat) (i p q:Nat):Int:=if i=0 then (J1 t 0 (B8 t) false).getD p 0 else inF t (Ad0 t L (i - 1)) p q
theorem Da4 {t:R8} {L:List Nat} {i p:Nat} (h:Dr4 t L i p=true):Ad0 t L i p=Cs3 t L i p (B8 t):=by
 unfold Cs3
 cases i with
 |zero=>rw [Ad0];dsimp only;rw [Ej7 h,Ej7 rfl]
 |succ i=>rw [Ad0];dsimp only;rw [Ej7 h,Ej6 (by omega)];rfl
theorem Da3 {t:R8} {L:List Nat} {i p:Nat} (h:Dr4 t L i p=false):Ad0 t L i p=0:=by
 cases i with
 |zero=>rw [Ad0];dsimp only;rw [h];rfl
 |succ i=>rw [Ad0];dsimp only;rw [h];rfl
theorem Ds3 {t:R8} {L:List Nat} {i p q:Nat} (hg:G8 t):0≤Cs3 t L i p q∧Cs3 t L i p q≤9223372036854775807:=by
 unfold Cs3
 split
 ·exact (W4 t hg 0 (B8 t) false).2.get p
 ·exact inF_ok t _ p q
theorem Ds4 {t:R8} {L:List Nat} {i p:Nat} (hg:G8 t):0≤Ad0 t L i p∧Ad0 t L i p≤9223372036854775807:=by
 cases h:Dr4 t L i p
 ·rw [Da3 h];omega
 ·rw [Da4 h];exact Ds3 hg
def Bq6 (f:BagF) (p:Nat) (y:Int):BagF:=fun x=>if x<p then f x else if x=p then y else 0
theorem Dz0 (f:BagF) (n:Nat):Z2 (Bq6 f 0 0) n=List.replicate n 0:=by
 unfold Z2;rw [Et6];refine ⟨by simp,fun x hx=>?_⟩;obtain ⟨y,_,rfl⟩:=Eo7.1 hx;unfold Bq6;rw [Ej6 (by omega)]
 split<;>rfl
theorem De1 (f:BagF) (p n:Nat) (y z:Int) (hp:p<n):(I6 (Z2 (Bq6 f p y) n)).take p++[.int .i64 z]++(I6 (Z2 (Bq6 f p y) n)).drop (p+1)=I6 (Z2 (Bq6 f p z) n):=by
 rw [Z8 _ _ _ (by rw [F9,O5];exact hp)];apply El9;intro j;unfold I6 Z2;simp only [Em6,El3,En7,Eq0,Bq6]
 by_cases hj:p=j
 ·subst hj;simp [hp,Bq6]
 ·rw [Ej6 hj]
  by_cases h2:j<n
  ·simp [h2,Ne.symm hj,Bq6]
  ·simp [h2]
theorem Cl0 {f:BagF} {p:Nat} {y:Int} (n:Nat) (h:y=f p):Z2 (Bq6 f p y) n=Z2 (Bq6 f (p+1) 0) n:=by
 unfold Z2;apply Ep8;intro x hx;unfold Bq6
 by_cases h1:x<p
 ·rw [Ej7 h1,Ej7 (by omega)]
 ·by_cases h2:x=p
  ·rw [Ej6 h1,Ej7 h2,Ej7 (by omega),h2];exact h
  ·rw [Ej6 h1,Ej6 h2,Ej6 (by omega)];split<;>rfl
theorem midV_end (f:BagF) (n:Nat):Z2 (Bq6 f n 0) n=Z2 f n:=by
 unfold Z2;apply Ep8;intro x hx;unfold Bq6;rw [Ej7 (Em7.1 hx)]
def vecG (t:R8) (L:List Nat):List BagF:=(List.range L.length).map (Ad0 t L)
theorem Bx3 {t:R8} {L:List Nat} {i:Nat} (h:i<L.length):(vecG t L).getD i Q6=Ad0 t L i:=by
 unfold vecG;rw [Ej8,El3,Em1 h];rfl
theorem rvec_c (t:R8) (hg:G8 t) (hn:B8 t≤1000) (s:ByteArray) (hs:s.size≤1000) (As:Option Addr) (cS pf pl bt:Nat) (bf:List Nat) (F:Nat→Prop) (w:World) (hF:∀ x,F x→x<w.heap.size) (hU:RAu F w t As pf pl bt bf):Calls P 49 #[.agg (Br1 t As cS pf pl bt).toArray,.string s] w (Ret fun u w'=>Chg [] w w'∧∃ A c bs,u= .slice A s.size c∧Own w' w.heap.size 24 1 A s.size c (Al8 (B8 t) bs)∧bs.length=s.size∧GR w' w.heap.size bs (vecG t (B7 s)) (B8 t)):=by
 have hC:=A8 [] w;have hsl:=E8 s;have hlt:=V8 s;have hSl:=Al3 t hg;have hel:=W4 t hg 0 (B8 t) false;unfold Br1;rw [hSl];generalize hn':B8 t=n at*;refine D4 Tryz.func49 J J (Qd (B5 J (E1 J J) ?_));intro b1 w1 hb1 hs1 hx1 hB1;have hC:=hC.s0 hx1;have hU:=hU.u hx1
 refine Zc 1 J (Qd (Zc 1 J (Qa (Qd (Zc 1 J (B2 (D9 (σ:=Nat × Option Addr × Nat × List Nat) (fun (i,A,c,bs)=>[(1,.string s),(2,.pointer (some ⟨b1,0,none⟩)),(5,.slice A i c),(6,.int .i64 (i:Nat))]) (fun (i,A,c,bs) wr=>Chg [] w wr∧RAu F wr t As pf pl bt bf∧Blk wr b1 [.slice As n cS,.int .i64 (N5 t),.slice (some ⟨pf,0,none⟩) n n,.slice (some ⟨pl,0,none⟩) n n,.slice (some ⟨bt,0,none⟩) n n] 27∧Own wr (b1+1) 24 1 A i c (Al8 n bs)∧GR wr (b1+1) bs (vecG t (B7 s)) n∧bs.length=i∧i≤s.size) (fun (i,A,c,bs) wr=>s.size - i) (0,none,0,[]) ⟨rfl,rfl,rfl,rfl,trivial⟩ ?_ ?_)))))))
 ·exact ⟨hC,hU,hB1,Own.nil _ _ _ _,fun i hi=>absurd hi (by simp),rfl,Ek5 _⟩
 rintro ⟨i,A,c,bs⟩ w20 ⟨hC,hU,hB1,hO,hG,hbl,hi⟩
 try have hlB1:=hB1.lt
 refine Qa (Qd (Z 2 J (C9 J (F6 Tryz.underlying9 J) (Zc 1 J (A4 J (fun h1=>?_) (fun h1=>?_))))))
 ·try simp at h1
  have hil:i<s.size:=by omega
  have hbS0:∀ x∈bs,x<w20.heap.size:=fun x hx=>by obtain ⟨_,cs',hb⟩:=hG.mem hx;exact hb.lt
  refine A7 (Qa (B2 (Qd (Fa Dg0 J (Lb o23 J ‹_› (by rfl) ?_)))));refine Ln Tryz.underlying23 J (B5 J (O8 Dg4 zr3 J (cs:=I6 (List.replicate n 0)) (by omega) (by omega) (by show (madeCells #[_] (((n:Nat):Int).toNat*1)).toList=_;rw [Ek6,En5,T3];simp [I6])) ?_);intro b2 w2 hb2 hs2 hx2 hBv;have hC:=hC.s0 hx2;have hU:=hU.u hx2;have hB1:=hB1.u hx2;have hO:=hO.u hx2;have hG:=hG.u hx2;have hbS:∀ x∈bs,x<b2:=fun x hx=>by have:=hbS0 x hx;omega
  refine Zc 1 J (Qa (Qd (Zc 1 J (B2 (D9 (σ:=Nat) (fun p=>[(1,.string s),(2,.pointer (some ⟨b1,0,none⟩)),(5,.slice A i c),(6,.int .i64 (i:Nat)),(7,.slice (some ⟨b2,0,none⟩) n n),(8,.int .i64 (p:Nat))]) (fun p wr=>Chg [] w wr∧RAu F wr t As pf pl bt bf∧Blk wr b1 [.slice As n cS,.int .i64 (N5 t),.slice (some ⟨pf,0,none⟩) n n,.slice (some ⟨pl,0,none⟩) n n,.slice (some ⟨bt,0,none⟩) n n] 27∧Own wr (b1+1) 24 1 A i c (Al8 n bs)∧GR wr (b1+1) bs (vecG t (B7 s)) n∧Blk wr b2 (I6 (Z2 (Bq6 (Ad0 t (B7 s) i) p 0) n)) 3∧p≤n) (fun p wr=>n - p) 0 ⟨rfl,rfl,rfl,rfl,rfl,rfl,trivial⟩ ?_ ?_)))))
  ·exact ⟨hC,hU,hB1,hO,hG,by rw [Dz0];exact hBv,Ek5 _⟩
  rintro p w40 ⟨hC,hU,hB1,hO,hG,hBv,hp⟩
  try have hlB1:=hB1.lt
  refine Qa (Qd (Z 2 J (Ln Tryz.underlying24 J (Zc 1 J (A4 J (fun h2=>?_) (fun h2=>?_))))))
  ·try simp at h2
   have hpn:p<n:=by omega
   have hbS2:∀ x∈bs,x∉[b2]:=fun x hx=>by have:=hbS x hx;simp;omega
   have hOB:=hO.offBlk hBv (by decide);obtain ⟨u8,hu,hu2⟩:=I9 s i hil;have hby:=hlt _ (H5 (B7 s) 0 i (by omega));refine A7 (Qa (B2 (Qa (Qa (C7 (S:=[]) 9 [(0,0),(0,1),(0,2),(0,3),(0,4),(0,5),(0,6),(0,7),(0,8),(2,9),(2,10)] mo (by kernel_rfl) ?_)))));intro w3 hx3 hh3;have hC:=hC.s0 hx3;have hU:=hU.u hx3;have hB1:=hB1.u hx3;have hO:=hO.u hx3;have hG:=hG.u hx3;have hBv:=hBv.u hx3;obtain ⟨g,off,rfl,hFg,hltc,hcell⟩:=hU.rs.at_ (by rw [hSl];omega);refine Fa Dg0 J (D5 J (B3 o23 J ‹_› (by simp;done) (by rfl)) ?_);refine Z 1 J (D5 J (C2 Aq5 J J (by omega) (by omega)) (D5 J (J3 (vs:=C4 ((O3 t).getD p 0)) J0 J ⟨by have:=hU.rs;omega,fun j v hj=>by rw [El8];exact hcell (p*4+j) v (by have hj4:j<4:=(Em0.1 hj).1;rw [O4 (O3 t) p j (by omega) hj4];exact hj)⟩ (by simp;done) J) ?_));refine Z 2 J (D5 J (Does.to (F3 Tryz.underlying9 J J (by omega) (by exact hu)) (J5 (show ((u8.toNat:Nat):Int)=(((B7 s).getD i 0:Nat):Int) by rw [hu2]))) ?_);refine D5 J (H3 kn5 Tryz.underlying3 J (by exact I3 (by omega))) ?_;refine Ca fb52 J (Dv7 ((O3 t).getD p 0) ((B7 s).getD i 0) hby _) ?_;rintro _ w4 ⟨rfl,hx4⟩;have hC:=hC.s0 hx4;have hU:=hU.u hx4;have hB1:=hB1.u hx4;have hO:=hO.u hx4;have hG:=hG.u hx4;have hBv:=hBv.u hx4
   refine Zc 1 J (A4 J (fun h3=>?_) (fun h3=>?_))
   ·try simp at h3
    refine Xb (Qb (Z 1 J (Ad J J (by omega) (Zc 1 J ⟨p+1,⟨rfl,rfl,rfl,rfl,rfl,rfl,trivial⟩,?_,?_⟩))));exact ⟨hC,hU,hB1,hO,hG,by rw [← Cl0 n (Da3 (by simpa [Dr4] using h3)).symm];exact hBv,hpn⟩;show n - (p+1)<n - p;omega
   ·try simp at h3
    have h3':Dr4 t (B7 s) i p=true:=by simpa [Dr4] using h3
    refine A7 (I0 (fun e9 wr=>Sub [(1,.string s),(2,.pointer (some ⟨b1,0,none⟩)),(5,.slice A i c),(6,.int .i64 (i:Nat)),(7,.slice (some ⟨b2,0,none⟩) n n),(8,.int .i64 (p:Nat))] e9∧Chg [] w wr∧RAu F wr t (some ⟨g,off,none⟩) pf pl bt bf∧Blk wr b1 [.slice (some ⟨g,off,none⟩) n cS,.int .i64 (N5 t),.slice (some ⟨pf,0,none⟩) n n,.slice (some ⟨pl,0,none⟩) n n,.slice (some ⟨bt,0,none⟩) n n] 27∧Own wr (b1+1) 24 1 A i c (Al8 n bs)∧GR wr (b1+1) bs (vecG t (B7 s)) n∧Blk wr b2 (I6 (Z2 (Bq6 (Ad0 t (B7 s) i) p (Cs3 t (B7 s) i p 0)) n)) 3) ?_ ?_)
    ·refine Qd (Zc 2 J (A4 J (fun g1=>?_) (fun g1=>?_)))
     ·try simp at g1
      refine Qb (Z 2 J (Fa fl27_2 J (Lb o24 J ‹_› (by rfl) ?_)));refine Z 1 J (C9 J (B1 T7 J J (by omega) (by omega)) (Lc o3 J (by rw [hU.first.cell,El4,hn'];exact J4 _ p (by rw [hel.1];exact hpn)) ?_));refine C9 J (B1 T7 J J (by omega) (by omega)) (Pb (cs':=(I6 (Z2 (Bq6 (Ad0 t (B7 s) i) p ((J1 t 0 n false).getD p 0)) n))) sz3 J J hBv J J J (by rw [F9,O5,Ep0];omega) (by rw [Ek6,El4];exact De1 _ _ _ _ _ hpn) ?_);intro w5 hs5 hx5 hBv;have hC:=hC.step hx5 (by simp;omega);have hU:=hU.q hx5 (by intro b hb hFb;have:=hF _ hFb;simp at hb;omega);have hB1:=hB1.q hx5 (by simp;omega);have hO:=(by exact hO.keep hx5 ‹_›);have hG:=hG.q hx5 ‹_›;refine Qc ⟨⟨rfl,rfl,rfl,rfl,rfl,rfl,trivial⟩,?_⟩;exact ⟨hC,hU,hB1,hO,hG,by unfold Cs3;rw [Ej7 (by omega),hn'];exact hBv⟩
     ·try simp at g1
      refine A7 ⟨⟨rfl,rfl,rfl,rfl,rfl,rfl,trivial⟩,?_⟩;exact ⟨hC,hU,hB1,hO,hG,by unfold Cs3;rw [Ej6 (by omega)];exact hBv⟩
    rintro e9 w50 ⟨hs9,hC,hU,hB1,hO,hG,hBv⟩;refine H9 _ hs9 ?_;clear hs9 e9
    refine Qd (Zc 1 J (B2 (D9 (σ:=Nat) (fun q=>[(1,.string s),(2,.pointer (some ⟨b1,0,none⟩)),(5,.slice A i c),(6,.int .i64 (i:Nat)),(7,.slice (some ⟨b2,0,none⟩) n n),(8,.int .i64 (p:Nat)),(9,.int .i64 (q:Nat))]) (fun q wr=>Chg [] w wr∧RAu F wr t (some ⟨g,off,none⟩) pf pl bt bf∧Blk wr b1 [.slice (some ⟨g,off,none⟩) n cS,.int .i64 (N5 t),.slice (some ⟨pf,0,none⟩) n n,.slice (some ⟨pl,0,none⟩) n n,.slice (some ⟨bt,0,none⟩) n n] 27∧Own wr (b1+1) 24 1 A i c (Al8 n bs)∧GR wr (b1+1) bs (vecG t (B7 s)) n∧Blk wr b2 (I6 (Z2 (Bq6 (Ad0 t (B7 s) i) p (Cs3 t (B7 s) i p q)) n)) 3∧q≤n) (fun q wr=>n - q) 0 ⟨rfl,rfl,rfl,rfl,rfl,rfl,rfl,trivial⟩ ?_ ?_)))
    ·exact ⟨hC,hU,hB1,hO,hG,hBv,Ek5 _⟩
    rintro q w60 ⟨hC,hU,hB1,hO,hG,hBv,hq⟩
    refine Qa (I0 (fun e9 wr=>Sub [(1,.string s),(2,.pointer (some ⟨b1,0,none⟩)),(5,.slice A i c),(6,.int .i64 (i:Nat)),(7,.slice (some ⟨b2,0,none⟩) n n),(8,.int .i64 (p:Nat)),(9,.int .i64 (q:Nat)),(54,.bool (decide (q<n∧0<i)))] e9∧Chg [] w wr∧RAu F wr t (some ⟨g,off,none⟩) pf pl bt bf∧Blk wr b1 [.slice (some ⟨g,off,none⟩) n cS,.int .i64 (N5 t),.slice (some ⟨pf,0,none⟩) n n,.slice (some ⟨pl,0,none⟩) n n,.slice (some ⟨bt,0,none⟩) n n] 27∧Own wr (b1+1) 24 1 A i c (Al8 n bs)∧GR wr (b1+1) bs (vecG t (B7 s)) n∧Blk wr b2 (I6 (Z2 (Bq6 (Ad0 t (B7 s) i) p (Cs3 t (B7 s) i p q)) n)) 3) ?_ ?_)
    ·refine Qb (Z 2 J (Ln Tryz.underlying24 J (Z 2 J (C0 (d:=51) J (fun g2=>?_) (fun g2=>?_)))))
     ·try simp at g2
      refine Qu J (Z 1 J (Qu J (Zc 2 J ⟨⟨rfl,rfl,rfl,rfl,rfl,rfl,rfl,(H0 J (by rw [El0,cmpB_gtr,El1];omega)),trivial⟩,?_⟩)));exact ⟨hC,hU,hB1,hO,hG,hBv⟩
     ·try simp at g2
      refine Qk J (Qk J (Zc 1 J ⟨⟨rfl,rfl,rfl,rfl,rfl,rfl,rfl,(H0 J (by rw [Ek9 (by omega)])),trivial⟩,?_⟩));exact ⟨hC,hU,hB1,hO,hG,hBv⟩
    rintro e9 w70 ⟨hs9,hC,hU,hB1,hO,hG,hBv⟩;refine H9 _ hs9 ?_;clear hs9 e9
    refine A4 J (fun q3=>?_) (fun q3=>?_)
    ·have q3:=Eo4 q3;have hqn:q<n:=q3.1;obtain ⟨j,rfl⟩:∃ j,i=j+1:=⟨i - 1,by omega⟩;have hOB:=hO.offBlk hBv (by decide);have hvj:∀ x,0≤Ad0 t (B7 s) j x∧Ad0 t (B7 s) j x≤9223372036854775807:=fun x=>Ds4 hg
     have hmid:∀ (f:BagF) (y:Int),Bq6 f p y p=y:=fun f y=>by unfold Bq6;rw [Ej6 (by omega),Ej7 J]
     have hy:=Ds3 (t:=t) (L:=B7 s) (i:=j+1) (p:=p) (q:=q) hg;refine A7 (Qa (B2 (C7 (S:=[]) 24 [(0,0),(0,1),(0,2),(0,3),(0,4),(0,5),(0,6),(0,7),(0,8),(0,9),(0,10),(0,11),(0,12),(0,13),(0,14),(0,15),(0,16),(0,17),(0,18),(0,19),(0,20),(0,21),(1,22),(1,23),(2,24),(2,25)] mo (by kernel_rfl) ?_)));intro w6 hx6 hh6;have hz6:=hx6.size;have hC:=hC.s0 hx6;have hU:=hU.u hx6;have hB1:=hB1.u hx6;have hO:=hO.u hx6;have hG:=hG.u hx6;have hBv:=hBv.u hx6;have hCS6:=A8 ([]) w6;obtain ⟨hne,hBq,hlq,hrq⟩:=hU.rows.row q (by omega);obtain ⟨hjl,hBj⟩:=hG j (by omega);rw [Bx3 (by omega)] at hBj;have hmq:=hrq.get p;refine Z 4 J (D5 J (B1 T7 J J (by omega) (by omega)) (D5 J (D7 o3 J (by rw [hBv.cell,El4,Ek6,J4 _ p (by rw [O5];exact hpn),Av8 _ _ _ hpn,hmid]) (by simp;done)) ?_));obtain ⟨g9,o9,rfl,_,hlt9,hcell9⟩:=(hO.rd (F:=fun _=>True) (fun _ _ _=>trivial)).at_ (by omega);refine Z 2 J (Su J J (by omega) (D5 J (B1 Cr1 J J (by omega) (by omega)) (D5 J (D7 o24 J (by rw [show ((((j+1:Nat):Int) - 1).toNat)=j by omega];exact ((hO.rd (F:=fun _=>True) (fun _ _ _=>trivial)).one (Ac1 n bs j (by omega))).2) (by simp;done)) ?_)));refine Z 1 J (D5 J (B1 T7 J J (by omega) (by omega)) (D5 J (D7 o3 J (by rw [hBj.cell,El4,Ek6,J4 _ q (by rw [O5];exact hqn),Av8 _ _ _ hqn]) (by simp;done)) ?_));refine Fa fl27_4 J (D5 J (B3 o25 J ‹_› (by simp;done) (by rfl)) ?_);refine Z 1 J (D5 J (B1 Cr1 J J (by omega) (by omega)) (D5 J (D7 o24 J (by rw [hU.tab.cell,El4];exact Bi5 _ bf q (by rw [hU.rows.lb];omega)) (by simp;done)) ?_));refine Z 1 J (D5 J (B1 T7 J J (by omega) (by omega)) (D5 J (D7 o3 J (by rw [hBq.cell,El4];exact J4 _ p (by omega)) (by simp;done)) ?_));refine C5 J (C3 fb50 J) (Db5 (Ad0 t (B7 s) j q) (((V0 t).getD q []).getD p 0) (hvj q).2 hmq.2 _) ?_;rintro _ _ ⟨rfl,rfl⟩;refine ⟨hCS6,?_⟩;refine C5 J (C3 Cr3 J) (Aa4 (Cs3 t (B7 s) (j+1) p q) (Ac0 (Ad0 t (B7 s) j q) (((V0 t).getD q []).getD p 0)) hy.2 (V1 _ _).2 _) ?_;rintro _ _ ⟨rfl,rfl⟩;refine ⟨hCS6,?_⟩;refine C9 J (B1 T7 J J (by omega) (by omega)) (Pb (cs':=(I6 (Z2 (Bq6 (Ad0 t (B7 s) (j+1)) p (Cs3 t (B7 s) (j+1) p (q+1))) n))) sz3 J J hBv J J J (by rw [F9,O5,Ep0];omega) (by rw [Ek6,El4];unfold Cs3;rw [Ej6 (by omega),Ej6 (by omega),Cb4];exact De1 _ _ _ _ _ hpn) ?_);intro w9 hs9 hx9 hBv;have hC:=hC.step hx9 (by simp;omega);have hU:=hU.q hx9 (by intro b hb hFb;have:=hF _ hFb;simp at hb;omega);have hB1:=hB1.q hx9 (by simp;omega);have hO:=(by exact hO.keep hx9 ‹_›);have hG:=hG.q hx9 ‹_›;refine Qc (Qb (Z 1 J (Ad J J (by omega) (Zc 1 J ⟨q+1,⟨rfl,rfl,rfl,rfl,rfl,rfl,rfl,trivial⟩,?_,?_⟩))));exact ⟨hC,hU,hB1,hO,hG,hBv,hqn⟩;show n - (q+1)<n - q;omega
    ·have q3:=Et4 q3
     have hfin:Cs3 t (B7 s) i p q=Ad0 t (B7 s) i p:=by
      rw [Da4 h3',hn'];unfold Cs3
      by_cases h0:i=0
      ·rw [Ej7 h0,Ej7 h0]
      ·rw [Ej6 h0,Ej6 h0,show q=n by omega]
     rw [hfin,Cl0 n J] at hBv;refine Xb (Qb (Z 1 J (Ad J J (by omega) (Zc 1 J ⟨p+1,⟨rfl,rfl,rfl,rfl,rfl,rfl,trivial⟩,?_,?_⟩))));exact ⟨hC,hU,hB1,hO,hG,hBv,hpn⟩;show n - (p+1)<n - p;omega
  ·try simp at h2
   have hpp:p=n:=by omega
   subst hpp;rw [midV_end] at hBv;have hGA:∀ x∈bs,x∉E6 A:=fun x hx hm=>by obtain ⟨_,cs',hb⟩:=hG.mem hx;exact hO.offBlk hb (by decide) x hm (by simp)
   have hOb:=hO.blk;have hvA:b2∉E6 A:=fun h=>hO.offBlk hBv (by decide) b2 h (by simp)
   refine Xb (Qb (Z 2 J (B5 J (B6 Cr1 Tryz.underlying25 zr24 J J J (by rfl)) ?_)));intro b10 w10 hb10 hs10 hx10 hB10;have hC:=hC.s0 hx10;have hU:=hU.u hx10;have hB1:=hB1.u hx10;have hO:=hO.u hx10;have hG:=hG.u hx10;have hBv:=hBv.u hx10;refine G1 J el25 J J hO (Blk.rd (F:=fun _=>True) ‹_› J trivial) (by rfl) (by omega) (by omega) ?_;intro A' c' w11 hO11 hx11 hA';have hC:=hC.step hx11 (by intro x h;have:=hOb x h;exact .inr (by omega));have hU:=hU.q hx11 (by intro x hx hf;have:=hOb x hx;have:=hF x hf;omega);have hB1:=hB1.q hx11 (by intro h;have:=hOb _ h;omega);have hG:=hG.q hx11 ‹_›;have hBv:=hBv.q hx11 ‹_›
   replace hO:=hO11
   refine Zc 1 J (Qb (Z 1 J (Ad J J (by omega) (Zc 1 J ⟨(i+1,A',c',bs++[b2]),⟨rfl,rfl,rfl,rfl,trivial⟩,?_,?_⟩))));refine ⟨hC,hU,hB1,?_,hG.snoc (by omega) (by rw [hbl,Bx3 (by omega)];exact hBv),by simp [hbl],hil⟩;unfold Al8;rw [En9];exact hO;show s.size - (i+1)<s.size - i;omega
 ·try simp at h1
  have hkk:i=s.size:=by omega
  subst hkk;exact Xb (Qd (Zc 2 J (A6 (B4 J J ⟨hC,A,c,bs,rfl,hO.lower (by omega),hbl,fun i hi=>⟨by have:=(hG i hi).1;omega,(hG i hi).2⟩⟩))))
def Dr3 (t:R8) (f:BagF) (p:Nat):Int:=(List.range p).foldl (fun a x=>W9 a (Ac0 (f x) ((J1 t 0 (B8 t) true).getD x 0))) 0
theorem Bj8 (t:R8) (f:BagF) (p:Nat):Dr3 t f (p+1)=W9 (Dr3 t f p) (Ac0 (f p) ((J1 t 0 (B8 t) true).getD p 0)):=by
 unfold Dr3;rw [Eo6,En4,Ep3,Eq3]
theorem outF_ok (t:R8) (f:BagF):∀ p,0≤Dr3 t f p∧Dr3 t f p≤9223372036854775807
 |0=>by unfold Dr3;rw [List.range_zero,Eq3];omega
 |p+1=>by rw [Bj8];exact K7 _ _
def Bx2 (t:R8) (L:List Nat):Int:=if L.length=0 then N5 t else Dr3 t (Ad0 t L (L.length - 1)) (B8 t)
theorem rways_c (t:R8) (hg:G8 t) (hn:B8 t≤1000) (s:ByteArray) (hs:s.size≤1000) (As:Option Addr) (cS pf pl bt:Nat) (bf:List Nat) (F:Nat→Prop) (w:World) (hF:∀ x,F x→x<w.heap.size) (hU:RAu F w t As pf pl bt bf):Calls P 21 #[.agg (Br1 t As cS pf pl bt).toArray,.string s] w (Ret fun u w'=>u= .int .i64 (Bx2 t (B7 s))∧Chg [] w w'):=by
 have hC:=A8 [] w;have hsl:=E8 s;have hSl:=Al3 t hg;have hel:=W4 t hg 0 (B8 t) true;have hW:Bx2 t (B7 s)=if s.size=0 then N5 t else Dr3 t (Ad0 t (B7 s) (s.size - 1)) (B8 t):=by unfold Bx2;rw [hsl]
 rw [hW];unfold Br1;refine D4 Tryz.func21 J J (Qd (B5 J (E1 J J) ?_));intro b1 w1 hb1 hs1 hx1 hB1;have hC:=hC.s0 hx1;have hU:=hU.u hx1
 refine Zc 1 J (Qa (Qd (Z 1 J (C9 J (Cg2 J J) (Qc (A4 J (fun h0=>?_) (fun h0=>?_)))))))
 ·have h0:s.size=0:=by rw [By0] at h0;have:=Eo4 h0;rw [← hsl,this];rfl
  refine Qd (Fa fl27_1 J (Lb o3 J ‹_› (by rfl) ?_));exact Zc 1 J (A6 (B4 J J ⟨by rw [Ej7 h0],hC⟩))
 ·have h0:¬ s.size=0:=by rw [By0] at h0;intro hz;refine absurd ?_ (Et4 h0);show B7 s=[];exact Ep5 (by omega)
  rw [Ej6 h0];refine A7 (Qd (La Cr4 J ‹_› J J ?_));refine Z 1 J (Ca fb49 J (rvec_c t hg hn s hs As cS pf pl bt bf F _ (fun z hz=>by have:=hF z hz;omega) hU) ?_);rintro v9 w2 ⟨hx2,A,c,bs,rfl,hO,hbl,hG⟩;have hC:=hC.s0 hx2;have hU:=hU.u hx2;have hB1:=hB1.u hx2;obtain ⟨hjl,hBj⟩:=hG (s.size - 1) (by omega);rw [Bx3 (by omega)] at hBj;have hrd:=hO.rd (F:=fun x=>x<w2.heap.size) (fun _ _ h=>h)
  refine Zc 1 J (Qd (Zc 1 J (Qa (Qd (Zc 1 J (B2 (D9 (σ:=Nat) (fun p=>[(1,.string s),(2,.pointer (some ⟨b1,0,none⟩)),(5,.slice A s.size c),(6,.int .i64 (Dr3 t (Ad0 t (B7 s) (s.size - 1)) p)),(7,.int .i64 (p:Nat))]) (fun p wr=>Chg [] w wr∧RAu F wr t As pf pl bt bf∧Blk wr b1 [.slice As (O3 t).length cS,.int .i64 (N5 t),.slice (some ⟨pf,0,none⟩) (B8 t) (B8 t),.slice (some ⟨pl,0,none⟩) (B8 t) (B8 t),.slice (some ⟨bt,0,none⟩) (B8 t) (B8 t)] 27∧Rd (fun x=>x<w2.heap.size) wr 1 A s.size (Al8 (B8 t) bs)∧Blk wr (bs.getD (s.size - 1) 0) (I6 (Z2 (Ad0 t (B7 s) (s.size - 1)) (B8 t))) 3∧p≤B8 t) (fun p wr=>B8 t - p) 0 (sb J) ?_ ?_)))))))
  ·exact ⟨hC,hU,hB1,hrd,hBj,Ek5 _⟩
  rintro p w40 ⟨hC,hU,hB1,hrd,hBj,hp⟩;refine Qa (Qd (Z 1 J (Fa Dg0 J (Lb o23 J ‹_› (by rfl) ?_))))
  refine Ln Tryz.underlying23 J (Zc 1 J (A4 J (fun h1=>?_) (fun h1=>?_)))
  ·try simp at h1
   have hpn:p<B8 t:=by omega
   have hy:=outF_ok t (Ad0 t (B7 s) (s.size - 1)) p;have hv:=Ds4 (t:=t) (L:=B7 s) (i:=s.size - 1) (p:=p) hg;have hl:=hel.2.get p;refine A7 (Qa (B2 (C7 (S:=[]) 16 [(0,0),(0,1),(0,2),(0,3),(0,4),(0,5),(0,6),(0,7),(0,8),(0,9),(0,10),(0,11),(0,12),(0,13),(0,14),(1,15),(2,16),(2,17)] mo (by kernel_rfl) ?_)));intro w3 hx3 hh3;have hz3:=hx3.size;have hC:=hC.s0 hx3;have hU:=hU.u hx3;have hB1:=hB1.u hx3;have hrd:=hrd.u hx3;have hBj:=hBj.u hx3;have hCS3:=A8 ([]) w3;obtain ⟨g9,o9,rfl,_,hlt9,hcell9⟩:=hrd.at_ (by omega);refine Z 3 J (D5 J (F6 Tryz.underlying9 J) (Su J J (by omega) (D5 J (B1 Cr1 J J (by omega) (by omega)) (D5 J (D7 o24 J (by rw [show ((((s.size:Nat):Int) - 1).toNat)=s.size - 1 by omega];exact (hrd.one (Ac1 _ bs (s.size - 1) (by omega))).2) (by simp;done)) ?_))));refine Z 1 J (D5 J (B1 T7 J J (by omega) (by omega)) (D5 J (D7 o3 J (by rw [hBj.cell,El4,Ek6,J4 _ p (by rw [O5];exact hpn),Av8 _ _ _ hpn]) (by simp;done)) ?_));refine Fa fl27_3 J (D5 J (B3 o24 J ‹_› (by simp;done) (by rfl)) ?_);refine Z 1 J (D5 J (B1 T7 J J (by omega) (by omega)) (D5 J (D7 o3 J (by rw [hU.last.cell,El4];exact J4 _ p (by rw [hel.1];exact hpn)) (by simp;done)) ?_));refine C5 J (C3 fb50 J) (Db5 (Ad0 t (B7 s) (s.size - 1) p) ((J1 t 0 (B8 t) true).getD p 0) hv.2 hl.2 _) ?_;rintro _ _ ⟨rfl,rfl⟩;refine ⟨hCS3,?_⟩;refine Ca Cr3 J (Aa4 (Dr3 t (Ad0 t (B7 s) (s.size - 1)) p) (Ac0 (Ad0 t (B7 s) (s.size - 1) p) ((J1 t 0 (B8 t) true).getD p 0)) hy.2 (V1 _ _).2 _) ?_;rintro _ _ ⟨rfl,rfl⟩;refine Zc 1 J (Qb (Z 1 J (Ad J J (by omega) (Zc 1 J ⟨p+1,⟨rfl,rfl,rfl,(G3 J (by rw [Bj8])),rfl,trivial⟩,?_,?_⟩))));exact ⟨hC,hU,hB1,hrd,hBj,hpn⟩;show B8 t - (p+1)<B8 t - p;omega
  ·try simp at h1
   have hpp:p=B8 t:=by omega
   subst hpp;exact Xb (Qd (Zc 2 J (A6 (B4 J J ⟨rfl,hC⟩))))
end Go.Clt
section
namespace Go.Clt
open Go Go.RowKit
theorem Da2 (t:R8) {L M:List Nat}:∀ i,(∀ j,j≤i→L.getD j 0=M.getD j 0)→Ad0 t L i=Ad0 t M i
 |0,h=>by
  funext p
  rw [Ad0,Ad0];unfold Dr4;rw [h 0 (Ek7 _)]
 |i+1,h=>by
  funext p
  rw [Ad0,Ad0,Da2 t i (fun j hj=>h j (by omega))];unfold Dr4;rw [h (i+1) (Ek7 _)]
theorem Eb6 (t:R8) (f:BagF) (p:Nat):∀ q,0<inF t f p q↔∃ x,x<q∧0<f x∧0<((V0 t).getD x []).getD p 0
 |0=>by unfold inF;simp
 |q+1=>by
  rw [Cb4,Ap1,Ap0,Eb6 t f p q]
  constructor
  ·rintro (⟨x,h1,h2⟩|h)
   ·exact ⟨x,by omega,h2⟩
   ·exact ⟨q,by omega,h⟩
  ·rintro ⟨x,h1,h2⟩
   by_cases hx:x<q
   ·exact .inl ⟨x,hx,h2⟩
   ·have:x=q:=by omega
    subst this;exact .inr h2
theorem Dc6 (t:R8) (f:BagF):∀ q,0<Dr3 t f q↔∃ x,x<q∧0<f x∧0<(J1 t 0 (B8 t) true).getD x 0
 |0=>by unfold Dr3;simp
 |q+1=>by
  rw [Bj8,Ap1,Ap0,Dc6 t f q]
  constructor
  ·rintro (⟨x,h1,h2⟩|h)
   ·exact ⟨x,by omega,h2⟩
   ·exact ⟨q,by omega,h⟩
  ·rintro ⟨x,h1,h2⟩
   by_cases hx:x<q
   ·exact .inl ⟨x,hx,h2⟩
   ·have:x=q:=by omega
    subst this;exact .inr h2
theorem Ch4 {t:R8} {E:DE} (h:SameA t E.k E.q):∀ L:List Nat,L≠[]→∀ p,p∈Ao4 E L↔p<B8 t∧0<Ad0 t L (L.length - 1) p:=by
 suffices H:∀ R:List Nat,R≠[]→∀ p,p∈Ao4 E R.reverse↔p<B8 t∧0<Ad0 t R.reverse (R.length - 1) p by
  intro L hne p;have:=H L.reverse (by simpa using hne) p
  rwa [List.reverse_reverse,List.length_reverse] at this
 intro R
 induction R with
 |nil=>intro h;exact absurd rfl h
 |cons b r ih=>
  intro _ p;rw [List.reverse_cons]
  have hlast:(r.reverse++[b]).getD r.length 0=b:=by
   rw [Ej8,Em2 (by simp)];simp
  by_cases hr:r=[]
  ·subst hr;show p∈W7 E.k E.q b↔_;rw [Eh1,h.len,h.S];refine and_congr_right fun hp=>?_
   show _↔0<Ad0 t [b] 0 p;rw [Ad0,h.kn.first p hp];dsimp only;unfold Dr4;show (((O3 t).getD p 0).testBit b=true∧_)↔0<if ((O3 t).getD p 0).testBit b=true then _ else _
   by_cases hb:((O3 t).getD p 0).testBit b=true
   ·rw [Ej7 hb];exact ⟨fun h=>h.2,fun h=>⟨hb,h⟩⟩
   ·rw [Ej6 hb];exact iff_of_false (fun h=>hb h.1) (by omega)
  ·have hl:0<r.length:=List.length_pos_iff.2 hr;rw [Au3 E (by simpa using hr),next_mem,h.len,h.S];refine and_congr_right fun hp=>?_
   obtain ⟨j,hj⟩:∃ j,r.length=j+1:=⟨r.length - 1,by omega⟩;show _↔0<Ad0 t (r.reverse++[b]) (r.length+1 - 1) p;rw [Nat.add_sub_cancel,hj,Ad0];dsimp only;unfold Dr4;rw [← hj,hlast]
   have hpre:Ad0 t (r.reverse++[b]) j=Ad0 t r.reverse j:=Da2 t j fun m hm=>by
    rw [Ej8,Em4 (by simp;omega),← Ej8]
   rw [hpre]
   have hal:∀ x,x∈Ao4 E r.reverse↔x<B8 t∧0<Ad0 t r.reverse j x:=fun x=>by
    rw [ih hr x,hj];exact Iff.rfl
   by_cases hb:((O3 t).getD p 0).testBit b=true
   ·rw [Ej7 hb,Eb6]
    constructor
    ·rintro ⟨_,x,h1,h2⟩;obtain ⟨h3,h4⟩:=(hal x).1 h1;exact ⟨x,h3,h4,(h.fol x p h3 hp).1 h2⟩
    ·rintro ⟨x,h3,h4,h5⟩;exact ⟨hb,x,(hal x).2 ⟨h3,h4⟩,(h.fol x p h3 hp).2 h5⟩
   ·rw [Ej6 hb];exact iff_of_false (fun h=>hb h.1) (by omega)
theorem ways_law {t:R8} {E:DE} {l:List St} (hg:DGood E l) (hl:DLaw E l) (h:SameA t E.k E.q) (L:List Nat) (hL:∀ b∈L,b<256):(l.getD (Dr5 E l L) default).meant=decide (0<Bx2 t L):=by
 rw [Dz4 hg hl L hL];unfold Bx2
 by_cases h0:L.length=0
 ·rw [Ej7 h0,Ej7 h0,decide_eq_decide];exact h.kn.void
 ·rw [Ej6 h0,Ej6 h0,El0,El6,Dc6];unfold Cx9;rw [Eq7];simp only [Ek2,El6];have hne:L≠[]:=fun he=>h0 (by rw [he];rfl)
  constructor
  ·rintro ⟨x,h1,h2,h3⟩;obtain ⟨h4,h5⟩:=(Ch4 h L hne x).1 h1;exact ⟨x,h4,h5,(h.kn.last x h4).1 h3⟩
  ·rintro ⟨x,h4,h5,h6⟩;exact ⟨x,(Ch4 h L hne x).2 ⟨h4,h5⟩,by rw [h.len];exact h4,(h.kn.last x h4).2 h6⟩
end Go.Clt
end
namespace Go.Clt
open Go Go.RowKit Go.Proofs
theorem RAu.mono {F F':Nat→Prop} {w:World} {t:R8} {As:Option Addr} {pf pl bt:Nat} {bf:List Nat} (h:RAu F w t As pf pl bt bf) (hF:∀ b,F b→b<w.heap.size→F' b):RAu F' w t As pf pl bt bf:=
 ⟨h.rs.mono hF,hF _ h.ff h.first.lt,h.first,hF _ h.fl h.last.lt,h.last,hF _ h.ft h.tab.lt,h.tab,h.rows.mono hF⟩
structure Bt (w:World) (t:R8) (k:Kn) (q:Wst) (l:List St) (pd:Nat) (As:Option Addr) (pf pl bt:Nat) (bf:List Nat):Prop where
 g8:G8 t
 pl10:B8 t≤10
 same:SameA t k q
 dfa:Do7 k q 100=some l
 isd:IsDfa (fun x=>x<w.heap.size) w pd (Ce4 k q 100) l
 rau:RAu (fun x=>x<w.heap.size) w t As pf pl bt bf
theorem Eg5 (s:ByteArray) (m:Int) (w:World) (hL:Laid w):Calls P 28 #[.string s,.int .i64 m] w (Ret fun u w'=>Chg [] w w'∧((∃ cs:List Value,u= .tuple #[.pointer none,.agg cs.toArray,.int .i64 1]∧cs.all Value.oneCell'=true∧cs.length=5)∨∃ t k q l pd As cS pf pl bt bf,u= .tuple #[.pointer (some ⟨pd,0,none⟩),.agg (Br1 t As cS pf pl bt).toArray,.int .i64 0]∧Bt w' t k q l pd As pf pl bt bf)):=by
 have hC:=A8 [] w
 try have hz4:=hL.sz
 refine D4 Tryz.func28 J J (Qd (Z 1 J (B5 J (B9 Dr6 J) ?_)));intro b1 w1 hb1 hs1 hx1 hB1;have hL:=hL.u hx1;refine Zc 1 J (Qd (Z 2 J (Ca fb11 J (Dv3 s m _ hL) ?_)));rintro v6 w2 ⟨hx2,hno,hyes⟩;have hz2:=hx2.size;have hC:=hC.s0 (hx1.s0 hx2);have hL:=hL.u hx2;have hB1:=hB1.u hx2
 by_cases hf:At1 (B7 s) m=true
 ·obtain ⟨cs,p,rfl,hR0,hA⟩:=hyes hf;have hA0:=Dz7 s m hf;obtain ⟨hfit,_,hG8,_,hpl⟩:=Cd5 (m:=m) (V8 s) (by unfold At1 at hf;simp only [Ek2,El6] at hf;exact hf.1.1);generalize T5 (S3 (B7 s) m).1=kq at*;generalize (I4 (B7 s) m).1=t at*;obtain ⟨k,q⟩:=kq;simp only [] at hA hA0;have hq:q.S.length≤10:=by rw [hA0.len];exact hpl
  obtain ⟨As,cS,pf,pl,bt,bf,rfl,hU⟩:=hR0.open;unfold Br1;have hF:∀ x,FR w1.heap.size (World.heap w2).size [] x→x<(World.heap w2).size:=fun x hx=>hx.2.1
  have hFl:∀ x,FR w1.heap.size (World.heap w2).size [] x→w1.heap.size≤x:=fun x hx=>hx.1
  generalize FR w1.heap.size (World.heap w2).size []=F at*;have hFb:∀ b∈[b1],¬ F b:=fun b hb h=>by have:=hFl b h;rw [Ej9] at hb;omega
  refine Z 4 J (B5 J (B9 Dr6 J) ?_);intro b3 w3 hb3 hs3 hx3 hB3;have hA:=hA.u hx3;have hU:=hU.u hx3;refine Z 1 J (Pe Dj6 J ‹_› J J ?_);intro w4 hs4 hx4 hB3;have hC:=hC.step (hx3.j hx4) (by simp<;>omega);have hL:=hL.q (hx3.j hx4) (by simp<;>omega);have hB1:=hB1.q (hx3.j hx4) (by simp<;>omega);have hA:=hA.q hx4 (by intro b hb hFb;have:=hF _ hFb;simp at hb;omega);have hU:=hU.q hx4 (by intro b hb hFb;have:=hF _ hFb;simp at hb;omega)
  refine Zc 1 J (Qa (Qd (Z 3 J (C0 (d:=21) J (fun g0=>?_) (fun g0=>?_)))))
  ·try simp at g0
   all_goals simp at g0
  ·try simp at g0
   refine Qu J (Fa Dg0 J (Qu J (Lb o23 J ‹_› (by rfl) ?_)))
   refine Qu J (Ln Tryz.underlying23 J (Qu J (Zc 2 J (A4 J (fun g1=>?_) (fun g1=>?_)))))
   ·try simp at g1
    refine Qa (C7 (S:=[]) 2 [(0,0),(0,1),(2,2),(2,3)] mo (by kernel_rfl) ?_);intro w5 hx5 hh5;have hB1:=hB1.u hx5;have hB3:=hB3.u hx5;refine D5 J (C1 Cr4 J ‹_› (by simp;done) J J) ?_;refine Z 1 J (Pe Dj6 J ‹_› J J ?_);intro w6 hs6 hx6 hB1;have hC:=hC.step (hx5.j hx6) (by simp<;>omega);refine Zc 1 J (A6 (G9 J J J (A5 Cr4 ‹_› J J) J ?_));exact ⟨hC,.inl ⟨_,rfl,rfl,rfl⟩⟩
   ·try simp at g1
    refine A7 (Qd (Z 1 J (Ca fb13 J (dnew_c _ p k q 100 _ hA (fun z hz=>by have:=hF z hz;omega) hL (by omega) (by omega)) ?_)));rintro v9 w7 ⟨hx7,hnone,hsome⟩;have hC:=hC.s0 hx7;have hB1:=hB1.u hx7;have hU:=hU.u hx7;have hB3:=hB3.u hx7
    by_cases hd:Do7 k q 100=none
    ·have hv:=hnone hd;subst hv;refine Zc 5 J (Qa (Qd (Zc 2 J (E3 (rfl) (Qa (C7 (S:=[]) 2 [(0,0),(0,1),(2,2),(2,3)] mo (by kernel_rfl) ?_))))));intro w8 hx8 hh8;have hB1:=hB1.u hx8;have hB3:=hB3.u hx8;refine D5 J (C1 Cr4 J ‹_› (by simp;done) J J) ?_;refine Z 1 J (Pe Dj6 J ‹_› J J ?_);intro w9 hs9 hx9 hB1;have hC:=hC.step (hx8.j hx9) (by simp<;>omega);refine Zc 1 J (A6 (G9 J J J (A5 Cr4 ‹_› J J) J ?_));exact ⟨hC,.inl ⟨_,rfl,rfl,rfl⟩⟩
    ·obtain ⟨l,hl⟩:∃ l,Do7 k q 100=some l:=by
      cases h:Do7 k q 100 with
      |none=>exact absurd h hd
      |some l=>exact ⟨l,rfl⟩
     obtain ⟨pd,rfl,hD⟩:=hsome l hl;have hD:=hD.mono (F':=fun x=>w1.heap.size≤x) (fun z h _=>by rcases h with h|h;exact hFl z h;omega);refine Zc 5 J (Qa (Qd (Zc 2 J (E4 (rfl) (A7 (Qa (C7 (S:=[]) 3 [(0,0),(0,1),(0,2),(2,3),(2,4)] mo (by kernel_rfl) ?_)))))));intro w10 hx10 hh10;have hB1:=hB1.u hx10;have hU:=hU.u hx10;have hB3:=hB3.u hx10;refine Z 1 J (D5 J (C1 Cr4 J ‹_› (by simp;done) J J) ?_);refine Z 1 J (Pe Dj6 J ‹_› J J ?_);intro w11 hs11 hx11 hB1;have hC:=hC.step (hx10.j hx11) (by simp<;>omega);have hU:=hU.q hx11 ‹_›;have hD:=hD.q (hx10.j hx11) (by simp<;>omega);refine Zc 1 J (A6 (G9 J J J (A5 Cr4 ‹_› J J) J ?_));exact ⟨hC,.inr ⟨t,k,q,l,pd,As,cS,pf,pl,bt,bf,rfl,hG8,hpl,hA0,hl,hD.mono (fun z _ hz=>hz),hU.mono (fun z _ hz=>hz)⟩⟩
 ·have hf':At1 (B7 s) m=false:=by simpa using hf
  obtain ⟨cs,rfl,hone,hlen⟩:=hno hf'
  obtain ⟨a0,a1,a2,a3,a4,rfl⟩:∃ a0 a1 a2 a3 a4,cs=[a0,a1,a2,a3,a4]:=by
   match cs,hlen with
   |[a0,a1,a2,a3,a4],_=>exact ⟨a0,a1,a2,a3,a4,rfl⟩
  refine Z 4 J (B5 J (B9 Dr6 J) ?_);intro b12 w12 hb12 hs12 hx12 hB12;refine Z 1 J (Pb (cs':=[a0,a1,a2,a3,a4]) Dj6 J J hB12 J J hone J J ?_);intro w13 hs13 hx13 hB12;have hC:=hC.step (hx12.j hx13) (by simp<;>omega);have hB1:=hB1.q (hx12.j hx13) (by simp<;>omega)
  refine Zc 1 J (Qa (Qd (Z 3 J (C0 (d:=21) J (fun w0=>?_) (fun w0=>?_)))))
  ·try simp at w0
   refine Qk J (Qk J (Qk J (Qk J (Zc 1 J (E3 J (Qa (C7 (S:=[]) 2 [(0,0),(0,1),(2,2),(2,3)] mo (by kernel_rfl) ?_)))))));intro w14 hx14 hh14;have hB1:=hB1.u hx14;have hB12:=hB12.u hx14;refine D5 J (C1 Cr4 J ‹_› (by simp;done) J J) ?_;refine Z 1 J (Pb (cs':=[a0,a1,a2,a3,a4]) Dj6 J J hB1 J J hone J J ?_);intro w15 hs15 hx15 hB1;have hC:=hC.step (hx14.j hx15) (by simp<;>omega);refine Zc 1 J (A6 (G9 J J J (A5 Cr4 ‹_› J J) J ?_));exact ⟨hC,.inl ⟨_,rfl,hone,rfl⟩⟩
  ·try simp at w0
   all_goals simp at w0
section
section
variable {P:Program} {n:Nat} {ops:Array Oper} {S:World→Prop} {N:Env→World→Prop} {B:Nat→Env→World→Prop} {R:Env→World→Prop} {e:Env} {w:World}
variable {rest:List (Nat × Oper)} {d:Nat} {op:Op} {t:TypeId} {p:String} {af:Array Edge} {dst:Option Tmp} {g:Option (Nat × Bool)} {φ:World→Prop}
theorem Bi4 {τ el ty:TypeId} {sz bytes n m c2:Nat} {A A2:Option Addr} {cs cs2:List Value} {F G:Nat→Prop} (ht:elB P τ el sz bytes=true) (ho:Rd F w sz A n cs) (hA:A=none→n=0) (hr:Rd G w sz A2 m cs2) (h1:∀ u∈cs2,u.oneCell'=true) (hm:0<m)
  (hl:(n+m)*bytes≤140737488355328):
  ∃ A' c' w',(Builtin.append_ #[τ,τ] ty #[.slice A n n,.slice A2 m c2]).run P w= .ok (.slice A' (n+m) c') w'∧Own w' w.heap.size el sz A' (n+m) c' (cs++cs2)∧Chg [] w w':=by
 cases A with
 |none=>
  obtain rfl:=hA rfl;obtain rfl:cs=[]:=Ep5 (by simpa using ho.len);obtain ⟨A',c',w',h2,h3,h4,_⟩:=Ba3 (ty:=ty) (c2:=c2) ht (Own.nil w w.heap.size el sz) hr h1 hl (Ek7 _);exact ⟨A',c',w',h2,h3,h4⟩
 |some a=>
  obtain ⟨hu,hsz,hby,i,z,hi,hs,hb,hz,hzs⟩:=Ce3 ht;have hle:n+m≤140737488355328:=En2 (Nat.le_mul_of_pos_right _ hby) hl;obtain ⟨g2,o2,rfl,hF,hlt,hc⟩:=hr.at_ hm
  have hold:∀ j u,cs[j]?=some u→w.cell? (a.add j)=some u:=fun j u hj=>by
   have hn:0<n:=by
    rcases Nat.eq_zero_or_pos n with h|h
    ·have:=ho.len;rw [h,Et8] at this;rw [Ep5 this] at hj;simp at hj
    ·exact h
   obtain ⟨g,o,hA2,_,_,hc2⟩:=ho.at_ hn;injection hA2 with hA2
   subst hA2;rw [add0];exact hc2 j u hj
  obtain ⟨v',w',h2,h3,h4⟩:=run_append_arg_grows (P:=P) w τ ty el i z sz bytes hu hi hz hs hb hzs hsz a n n cs ho.len hold ⟨g2,o2,none⟩ m c2 cs2 hr.len (fun j u hj=>by rw [add0];exact hc j u hj) (by omega) (by simp only [maxLen];omega) hl
  have hv:∃ A' c',v'= .slice A' (n+m) c':=by
   rcases h3.2 with ⟨hv,hn⟩|⟨g,cap,cur,hv,_⟩
   ·exact ⟨none,0,by rw [hv];congr 1;omega⟩
   ·exact ⟨_,cap,hv⟩
  obtain ⟨A',c',rfl⟩:=hv;exact ⟨A',c',w',h2,h3,by simpa using Ao7 h4⟩
theorem EP.appF2 {τ el:TypeId} {sz bytes n' m c2:Nat} {x y:Operand} {A A2:Option Addr} {cs cs2:List Value} {F G:Nat→Prop} (hd:Nat.blt d n=true) (ht:elB P τ el sz bytes=true)
  (hx:ev e x=some (.slice A n' n')) (hy:ev e y=some (.slice A2 m c2)) (ho:Rd F w sz A n' cs) (hA:A=none→n'=0) (hr:Rd G w sz A2 m cs2) (h1:cs2.all Value.oneCell'=true) (hm:0<m) (hl:(n'+m)*bytes≤140737488355328)
  (h:∀ A' c' w',Own w' w.heap.size el sz A' (n'+m) c' (cs++cs2)→Chg [] w w'→EP P n ops S N B R rest ((d,.slice A' (n'+m) c')::e) w'):
  EP P n ops S N B R ((2,⟨some d,.call { callee:=.builtin .append,args:= #[x,y],argTypes:= #[τ,τ] },t,p,af,none⟩)::rest) e w:=by
 obtain ⟨A',c',w',hrun,h2,h3⟩:=Bi4 (ty:=t) (c2:=c2) ht ho hA hr (fun u hu=>by rw [Eq6] at h1;exact h1 u hu) hm hl;exact Cq4 hd (fun a ha=>by simp [execOp,resolve,invoke,builtin,ha.ev hx,ha.ev hy,hrun]) (h A' c' w' h2 h3)
theorem Br3 {τ:TypeId} {sz:Nat} {x y z:Operand} {A:Option Addr} {m c:Nat} {k k2:IntKind} (ht:slB P τ sz=true) (hx:ev e x=some (.slice A m c)) (hy:ev e y=some (.int k (m:Nat))) (hz:ev e z=some (.int k2 (m:Nat))) (hA:A=none→c=0) (hc:m≤c):
  Does P n e ⟨dst,.slice τ x none (some y) (some z),t,p,af,g⟩ φ (.slice A m m):=fun a w ha _=>by
 obtain ⟨el,inf,hu,hi,hs⟩:=Av1 ht
 cases A with
 |none=>
  obtain rfl:=hA rfl;obtain rfl:m=0:=by omega
  simp [execOp,ha.ev hx,ha.ev hy,ha.ev hz,Instr.sliceAt,Instr.slice,run_underlying hu,Instr.sliceBounds,Instr.sliceBound,asIntOf,sizeOf,typeInfo,hi,hs]
 |some q=>
  have h:(0:Int)≤(m:Int)∧(m:Int)≤(c:Int):=⟨by omega,by omega⟩;simp [execOp,ha.ev hx,ha.ev hy,ha.ev hz,Instr.sliceAt,Instr.slice,run_underlying hu,Instr.sliceBounds,Instr.sliceBound,asIntOf,h,hc,sizeOf,typeInfo,hi,hs,Addr.add]
end
def Aa9 (E:DE) (l:List St) (most:Nat):Nat→Nat→List Nat→List (List Nat)→List (List Nat)
 |0,st,w,out=>if most≤out.length∨(Y1 E l 0).getD st 0=0 then out else out++[w]
 |n+1,st,w,out=>if most≤out.length∨(Y1 E l (n+1)).getD st 0=0 then out else E.bytes.foldl (fun o b=>Aa9 E l most n (R7 E l st b) (w++[b]) o) out
theorem Cl8 (E:DE) (l:List St) (most n st:Nat) (w:List Nat) (out:List (List Nat)) (h:most≤out.length∨(Y1 E l n).getD st 0=0):Aa9 E l most n st w out=out:=by
 cases n with
 |zero=>rw [Aa9,Ej7 h]
 |succ n=>rw [Aa9,Ej7 h]
end
def Bf7 (W:List (List Nat)):List Value:=W.map Cr9
theorem Da5 (W:List (List Nat)) (i:Nat) (h:i<W.length):(Bf7 W)[i]?=some (Cr9 (W.getD i [])):=by
 unfold Bf7;rw [El3,Ek0 h,Ej8,Ek0 h];rfl
theorem Own.nilc {w:World} {lo:Nat} {el:TypeId} {sz n c:Nat} {A:Option Addr} {cs:List Value} (h:Own w lo el sz A n c cs) (hA:A=none):n=0∧c=0:=by
 subst hA
 rcases h.2 with ⟨hv,hn⟩|⟨g,cap,cur,hv,_⟩
 ·injection hv with _ h1 h2;exact ⟨h1,h2⟩
 ·injection hv with h1;cases h1
theorem Bl2 (E:DE) (l:List St) (most:Nat):∀ (n st:Nat) (w:List Nat) (out:List (List Nat)) (k:Nat),out.length≤k→most≤k→(Aa9 E l most n st w out).length≤k
 |0,st,w,out,k,h1,h2=>by
  rw [Aa9]
  split
  ·exact h1
  ·rename_i h;rw [Ek1];simp;omega
 |n+1,st,w,out,k,h1,h2=>by
  rw [Aa9]
  split
  ·exact h1
  ·have key:∀ (r:List Nat) (o:List (List Nat)),o.length≤k→(r.foldl (fun o b=>Aa9 E l most n (R7 E l st b) (w++[b]) o) o).length≤k:=by
    intro r
    induction r with
    |nil=>exact fun o h=>h
    |cons b r ih=>exact fun o h=>ih _ (Bl2 E l most n _ _ o k h h2)
   exact key _ _ h1
def Dz9 (E:DE) (l:List St) (most n st:Nat) (w:List Nat) (out:List (List Nat)) (j:Nat):List (List Nat):=(E.bytes.take j).foldl (fun o b=>Aa9 E l most n (R7 E l st b) (w++[b]) o) out
theorem Dz8 (E:DE) (l:List St) (most n st:Nat) (w:List Nat) (out:List (List Nat)) (j:Nat) (hj:j<E.bytes.length):Dz9 E l most n st w out (j+1)=Aa9 E l most n (R7 E l st (E.bytes.getD j 0)) (w++[E.bytes.getD j 0]) (Dz9 E l most n st w out j):=by
 unfold Dz9;rw [Ep9,Ek0 hj,En4,Ej8,Ek0 hj];rfl
theorem lstF_len (E:DE) (l:List St) (most n st:Nat) (w:List Nat) (out:List (List Nat)) (k:Nat) (h1:out.length≤k) (h2:most≤k):∀ j,(Dz9 E l most n st w out j).length≤k:=by
 intro j;unfold Dz9;generalize E.bytes.take j=r
 induction r generalizing out with
 |nil=>exact h1
 |cons b r ih=>exact ih _ (Bl2 E l most n _ _ out k h1 h2)
def lisC (pc:Nat) (most:Nat) (Ao:Option Addr) (m co:Nat):List Value:=[.pointer (some ⟨pc,0,none⟩),.int .i64 (most:Nat),.slice Ao m co]
def ListC (E:DE) (l:List St) (most n:Nat):Prop:=∀ (st:Nat) (ws:List Nat) (out:List (List Nat)) (F F2:Nat→Prop) (pc p pl mm lo:Nat) (Ab:Option Addr) (cb:Nat) (Al:Option Addr) (cl:Nat) (gs:List Nat) (A:Option Addr) (c:Nat) (Ao:Option Addr) (co:Nat) (w:World),n<mm→st<l.length→(∀ b∈ws,b<256)→ws.length+n≤1000→out.length≤10000→most≤10000→(∀ x,F x→x<lo)→(∀ x,F2 x→x<lo)→lo≤pl→lo≤w.heap.size→CntM F w pc p E l mm Ab cb Al cl gs→IsDfa F2 w p E l→Blk w pl (lisC pc most Ao out.length co) 102→Own w lo 9 1 Ao out.length co (Bf7 out)→Own w lo 5 1 A ws.length c (bys ws)→
 Calls P 54 #[.pointer (some ⟨pl,0,none⟩),.int .i64 (st:Nat),.int .i64 (n:Nat),.slice A ws.length c] w (Ret fun _ w'=>Chg (pl::E6 Ao) w w'∧∃ Ao' co',Blk w' pl (lisC pc most Ao' (Aa9 E l most n st ws out).length co') 102∧Own w' lo 9 1 Ao' (Aa9 E l most n st ws out).length co' (Bf7 (Aa9 E l most n st ws out))∧∀ x∈E6 Ao',x∈E6 Ao∨w.heap.size≤x)
theorem Bl3 (E:DE) (l:List St) (most n:Nat) (ih:∀ m,n=m+1→ListC E l most m):ListC E l most n:=by
 intro st ws out F F2 pc p pl mm lo Ab cb Al cl gs A c Ao co w hn hst hws hwl hol hmo hF hF2 hpl hlo hK hD hB0 hO hOw;have hC:=A8 (pl::E6 Ao) w;have hg:=hD.good;have hnb:=hg.nb;have hbn:=hg.bl;have hby:=hg.by_;have hco:=Bb5 E l n;have hBc:=hK.blk;have hBv:=(hK.row n hn).2;have hR:=hK.rb;have hRl:=hK.rl;have hgl:=hK.gl;unfold lisC at hB0 ⊢;obtain ⟨g,off,hAl,_,_,_⟩:=hRl.at_ (by omega);subst hAl;have hP0:∀ h:most≤out.length∨(Y1 E l n).getD st 0=0,Aa9 E l most n st ws out=out:=fun h=>Cl8 E l most n st ws out h
 try have hlB0:=hB0.lt
 try have hlBv:=hBv.lt
 try have hlR:=hR.lt
 try have hlRl:=hRl.lt
 refine D4 Tryz.func54 J J (Qa (Qa (C7 (S:=[]) 26 [(0,0),(0,1),(0,2),(0,3),(0,4),(0,5),(0,6),(0,7),(0,8),(0,9),(0,10),(0,11),(0,12),(0,13),(0,14),(0,15),(0,16),(0,17),(0,18),(0,19),(0,20),(0,21),(0,22),(0,23),(0,24),(0,25)] mo (by kernel_rfl) ?_)));intro w1 hx1 hh1;have hC:=hC.s0 hx1;have hK:=hK.u hx1;have hD:=hD.u hx1;have hB0:=hB0.u hx1;have hO:=hO.u hx1;have hOw:=hOw.u hx1;have hBc:=hBc.u hx1;have hBv:=hBv.u hx1;have hR:=hR.u hx1;have hRl:=hRl.u hx1;refine Z 2 J (Fa Bm7 J (D5 J (B3 o49 J ‹_› (by simp;done) (by rfl)) ?_));refine Ln Tryz.underlying49 J (Z 2 J (Fa fl102_1 J (D5 J (B3 o3 J ‹_› (by simp;done) (by rfl)) ?_)))
 refine Z 2 J (C0 (d:=22) J (fun q0=>?_) (fun q0=>?_))
 ·try simp at q0
  refine Qk J (Qk J (Qk J (Qk J (Qk J (Qk J (Qk J (Qk J (Qk J (Qk J (Qk J (Qk J (Qk J (Qk J (Zc 1 J (E3 J (A6 (P1 J ⟨hC,Ao,co,?_,?_,fun x hx=>.inl hx⟩)))))))))))))))));rw [hP0 (.inl (by omega))];exact hB0;rw [hP0 (.inl (by omega))];exact hO
 ·try simp at q0
  refine Qu J (Z 1 J (Qu J (Z 1 J (Qu J (Fa Cx2 J (Qu J (D5 J (B3 o99 J ‹_› (by simp;done) (by rfl)) ?_)))))));refine Qu J (Z 1 J (Qu J (Fa Af0 J (Qu J (D5 J (B3 o25 J ‹_› (by simp;done) (by rfl)) ?_)))));refine Qu J (Z 1 J (Qu J (D5 J (B1 Cr1 J J (by omega) (by omega)) (Qu J (D5 J (D7 o24 J (hRl.one (Ac1 l.length gs n (by rw [hgl];omega))).2 (by simp;done)) ?_)))));refine Qu J (Z 1 J (Qu J (D5 J (B1 T7 J J (by omega) (by omega)) (Qu J (D5 J (D7 o3 J (by rw [hBv.cell,El4];exact J4 (Y1 E l n) st (by rw [hco.1];exact hst)) (by simp;done)) ?_)))))
  refine Qu J (Zc 2 J (A4 J (fun q1=>?_) (fun q1=>?_)))
  ·rw [cmpB_eql] at q1;refine A6 (P1 J ⟨hC,Ao,co,?_,?_,fun x hx=>.inl hx⟩);rw [hP0 (.inr q1)];exact hB0;rw [hP0 (.inr q1)];exact hO
  ·rw [cmpB_eqlF] at q1
   refine A7 (Qa (Qd (Zc 2 J (A4 J (fun q2=>?_) (fun q2=>?_)))))
   ·try simp at q2
    obtain rfl:n=0:=by omega
    have hP1:Aa9 E l most 0 st ws out=out++[ws]:=by rw [Aa9,Ej6 (by rintro (h|h);omega;exact q1 h)]
    have hOb:=hO.blk;have hplA:=hO.offBlk hB0 (by decide);have hplA2:pl∉E6 Ao:=fun h=>hplA pl h (by simp)
    have hwA:=hOw.apart hO (by decide);refine Qa (C7 (S:=E6 Ao) 9 [(0,0),(0,1),(0,2),(0,3),(0,4),(0,5),(1,6),(1,7),(1,8),(2,9),(2,10),(2,11)] mo (by kernel_rfl) ?_);intro w2 hx2 hh2;have hB0:=hB0.u hx2;have hOw:=hOw.u hx2;have hCS2:=A8 (E6 Ao) w2;refine Z 3 J (Fa Bm7 J (D5 J (B3 o49 J ‹_› ‹_› (by rfl)) ?_));refine Z 1 J (Cf7 J (Y5 (l:=ws) (F:=fun _=>True) J J hws (hOw.rd (fun _ _ _=>trivial))) ‹_› ?_);have hS1:∀ x∈E6 Ao,x∈pl::E6 Ao∨w.heap.size≤x:=fun x hx=>.inl (Em5 _ hx)
    have hS2:∀ x∈[pl],x∈pl::E6 Ao∨w.heap.size≤x:=fun x hx=>.inl (by rw [Ej9.1 hx];exact El7 ..)
    refine E2 J (B6 sl49 Tryz.underlying49 zr9 J J J (by rfl)) ?_;intro b3 w3 hb3 hs3 hx3 hB3;have hC:=hC.s0 (hx2.s0 hx3);have hB0:=hB0.u hx3;have hO:=hO.u (hx2.s0 hx3);have hCS2:=hCS2.s0 hx3;refine ⟨hCS2,?_⟩;refine Y4 J el49 J J hO (Blk.rd (F:=fun _=>True) ‹_› J trivial) (by rfl) (by omega) (by omega) ?_;intro A' c' w4 hO4 hx4 hA';have hC:=hC.step hx4 ‹_›;have hB0:=hB0.q hx4 ‹_›;have hCS2:=hCS2.step hx4 (by exact fun x h=>.inl h)
    replace hO:=hO4
    refine ⟨hCS2,?_⟩;have hplB:=hO.offBlk hB0 (by decide);refine Z 1 J (Fa Bm7 J (Pe sz49 J ‹_› J J ?_));intro w5 hs5 hx5 hB0;have hC:=hC.step hx5 (by simp;done);have hO:=(by exact hO.keep hx5 ‹_›);refine Qc (A6 (P1 J ⟨hC,A',c',?_,?_,?_⟩));rw [hP1,Ek1];exact hB0;rw [hP1,Ek1];unfold Bf7;rw [En9];exact hO;intro x hx;rcases hA' with rfl|⟨b,rfl,hb⟩;exact .inl hx;have:x=b:=by simpa [E6] using hx
    exact .inr (by omega)
   ·try simp at q2
    obtain ⟨m,rfl⟩:∃ m,n=m+1:=⟨n - 1,by omega⟩;have ih:=ih m J
    have hP2:Aa9 E l most (m+1) st ws out=Dz9 E l most m st ws out E.bytes.length:=by
     rw [Aa9,Ej6 (by rintro (h|h);omega;exact q1 h)];unfold Dz9;rw [Em3 (Ek7 _)]
    have hnil:=fun h:A=none=>hOw.nilc h
    refine A7 (Qd (Z 2 J (Fa Cx2 J (Lb o99 J ‹_› (by rfl) ?_))));refine Z 1 J (Fa Cx0 J (Lb o44 J ‹_› (by rfl) ?_))
    refine Ln Tryz.underlying44 J (Zc 1 J (B2 (D9 (σ:=Nat × Option Addr × Nat) (fun (j,Ao2,co2)=>[(0,.pointer (some ⟨pl,0,none⟩)),(1,.int .i64 (st:Nat)),(2,.int .i64 ((m+1:Nat):Int)),(3,.slice A ws.length c),(57,.slice Ab E.bytes.length cb),(58,.int .i64 (E.bytes.length:Nat)),(59,.int .i64 (j:Nat))]) (fun (j,Ao2,co2) wr=>Chg (pl::E6 Ao) w wr∧CntM F wr pc p E l mm Ab cb (some ⟨g,off,none⟩) cl gs∧IsDfa F2 wr p E l∧Blk wr pl (lisC pc most Ao2 (Dz9 E l most m st ws out j).length co2) 102∧Own wr lo 9 1 Ao2 (Dz9 E l most m st ws out j).length co2 (Bf7 (Dz9 E l most m st ws out j))∧Own wr lo 5 1 A ws.length c (bys ws)∧(∀ x∈E6 Ao2,x∈E6 Ao∨w.heap.size≤x)∧j≤E.bytes.length) (fun (j,Ao2,co2) wr=>E.bytes.length - j) (0,Ao,co) (sb J) ?_ ?_)))
    ·exact ⟨hC,hK,hD,hB0,hO,hOw,fun x hx=>.inl hx,Ek5 _⟩
    rintro ⟨j,Ao2,co2⟩ w40 ⟨hC,hK,hD,hB0,hO,hOw,hsub,hj⟩;have hBc:=hK.blk;have hR:=hK.rb;unfold lisC at hB0
    try have hzw:=hC.size
    try have hlB0:=hB0.lt
    try have hlR:=hR.lt
    refine Qd (Zc 1 J (Qa (A4 J (fun h3=>?_) (fun h3=>?_))))
    ·try simp at h3
     have hjn:j<E.bytes.length:=by omega
     have hbm:=hby _ (H5 E.bytes 0 j hjn);have hnl:=Ai6 hg hst hbm;have hl2:=lstF_len E l most m st ws out 10000 hol hmo j;obtain ⟨g2,o2,hA2,_,_,_⟩:=hR.at_ (by omega);subst hA2;refine A7 (Qa (B2 (Qd (C9 J (B1 Aj2 J J (by omega) (by omega)) (Lc o5 J (hR.one (At9 E.bytes j hjn)).2 (Zc 1 J (Qd (Z 2 J (Fa Cx2 J (Lb o99 J ‹_› (by rfl) ?_))))))))));refine Z 1 J (Fa Cx1 J (Lb o105 J ‹_› (by rfl) ?_));refine Z 2 J (N3 J (Ab6 J J (mNext _ _ _)) (Cy0 F2 p E l st (E.bytes.getD j 0) hst hbm _ hD) ?_);rintro _ w6 ⟨rfl,hx6⟩;have hz6:=hx6.size;have hOw:=hOw.u hx6;refine Zc 5 J (Qb (Z 3 J (C9 J ((Bp8 J J (by omega)).to (J5 (show (((m+1:Nat):Int) - 1)=((m:Nat):Int) by omega))) ?_)));refine Z 2 J (Ln Tryz.underlying44 J (Z 1 J (Ln Tryz.underlying44 J (C9 J (Br3 Aj2 J J J (fun h=>(hnil h).2) hOw.cap) (Z 1 J (B5 J (B6 Aj2 Tryz.underlying44 zr5 J J J (by rfl)) ?_))))));intro b7 w7 hb7 hs7 hx7 hB7;have hOw:=hOw.u hx7;refine EP.appF2 J el44 J J ((hOw.rd (F:=fun _=>True) (fun _ _ _=>trivial))) (fun h=>(hnil h).1) (Blk.rd (F:=fun _=>True) ‹_› J trivial) (by rfl) (by omega) (by omega) ?_;intro AhOn chOn w8 hOn hx8;have hz8:=hx8.size;have hC:=hC.s0 ((hx6.s0 hx7).s0 hx8);have hK:=hK.u ((hx6.s0 hx7).s0 hx8);have hD:=hD.u ((hx6.s0 hx7).s0 hx8);have hB0:=hB0.u ((hx6.s0 hx7).s0 hx8);have hO:=hO.u ((hx6.s0 hx7).s0 hx8);have hOw:=hOw.u hx8;have hplA:=hO.offBlk hB0 (by decide);have hwA:=hOw.apart hO (by decide);have hwB:=hOw.offBlk hB0 (by decide);have hOb:=hO.blk
     have hS1:∀ x∈pl::E6 Ao2,x∈pl::E6 Ao∨w.heap.size≤x:=fun x hx=>by
      rcases En6.1 hx with rfl|hx
      ·exact .inl (El7 ..)
      ·rcases hsub x hx with h|h
       ·exact .inl (Em5 _ h)
       ·exact .inr h
     have hSl:∀ b∈pl::E6 Ao2,lo≤b:=fun b hb=>by
      rcases En6.1 hb with rfl|hb
      ·exact hpl
      ·exact (hOb b hb).1
     have hSF:∀ b∈pl::E6 Ao2,¬ F b:=fun b hb h=>by have:=hSl b hb;have:=hF b h;omega
     have hSF2:∀ b∈pl::E6 Ao2,¬ F2 b:=fun b hb h=>by have:=hSl b hb;have:=hF2 b h;omega
     have hSW:∀ x∈E6 A,x∉pl::E6 Ao2:=fun x hx hm=>by
      rcases En6.1 hm with rfl|hm
      ·exact hwB x hx (by simp)
      ·exact hwA x hx hm
     have hOn2:=hOn.lower (lo':=lo) (by omega);have hcall:=ih (R7 E l st (E.bytes.getD j 0)) (ws++[E.bytes.getD j 0]) (Dz9 E l most m st ws out j) F F2 pc p pl mm lo (some ⟨g2,o2,none⟩) cb (some ⟨g,off,none⟩) cl gs AhOn chOn Ao2 co2 w8 (by omega) hnl (fun x hx=>by rcases En3.1 hx with h|h;exact hws x h;rw [Ej9] at h;omega) (by rw [Ek1];simp;omega) hl2 hmo hF hF2 hpl (by omega) hK hD hB0 hO (by rw [Ek1,show bys (ws++[E.bytes.getD j 0])=bys ws++bys [E.bytes.getD j 0] from by simp [bys]];exact hOn2);rw [← Dz8 E l most m st ws out j hjn,Ek1,Eo0] at hcall;refine Ca fb54 J (hcall) ?_;rintro _ w9 ⟨hx9,Ao3,co3,hB0',hO',hsub3⟩;have hC:=hC.step hx9 ‹_›;have hK:=hK.q hx9 ‹_›;have hD:=hD.q hx9 ‹_›;have hOw:=(by exact hOw.keep hx9 ‹_›);clear hB0;have hB0:=hB0';clear hB0';clear hO;have hO:=hO';clear hO';refine Qc (Qb (Ad J J (by omega) (Zc 1 J ⟨(j+1,Ao3,co3),⟨rfl,rfl,(G3 J (by omega)),rfl,rfl,rfl,rfl,trivial⟩,?_,?_⟩)));refine ⟨hC,hK,hD,hB0,hO,hOw,fun x hx=>?_,hjn⟩;rcases hsub3 x hx with h|h;exact hsub x h;exact .inr (by omega);show E.bytes.length - (j+1)<E.bytes.length - j;omega
    ·try simp at h3
     have hjj:j=E.bytes.length:=by omega
     subst hjj;refine Xb (P1 J ⟨hC,Ao2,co2,?_,?_,hsub⟩);rw [hP2];exact hB0;rw [hP2];exact hO
theorem De7 (E:DE) (l:List St) (most:Nat):∀ n,ListC E l most n
 |0=>Bl3 E l most 0 (fun m h=>by cases h)
 |n+1=>Bl3 E l most (n+1) (fun m h=>by obtain rfl:n=m:=Nat.succ.inj h;exact De7 E l most n)
def lsU (E:DE) (l:List St) (most k:Nat):List (List Nat):=(List.range k).foldl (fun o i=>Aa9 E l most i 0 [] o) []
theorem Bg4 (E:DE) (l:List St) (most k:Nat):lsU E l most (k+1)=Aa9 E l most k 0 [] (lsU E l most k):=by
 unfold lsU;rw [Eo6,En4];rfl
theorem De4 (E:DE) (l:List St) (most k:Nat) (h:most≤(lsU E l most k).length):∀ d,lsU E l most (k+d)=lsU E l most k
 |0=>rfl
 |d+1=>by
  have ih:=De4 E l most k h d;rw [← El8,Bg4,ih,Cl8 _ _ _ _ _ _ _ (.inl h)]
theorem Ea0 (E:DE) (l:List St) (most:Nat) (h:most≤10000):∀ k,(lsU E l most k).length≤10000
 |0=>Ek5 _
 |k+1=>by rw [Bg4];exact Bl2 E l most k 0 [] _ 10000 (Ea0 E l most h k) h
theorem wlist_c (F2:Nat→Prop) (p:Nat) (E:DE) (l:List St) (n most:Nat) (hn:n≤1000) (hmo:most≤10000) (w:World) (hFw2:∀ x,F2 x→x<w.heap.size) (hD:IsDfa F2 w p E l):
  Calls P 30 #[.pointer (some ⟨p,0,none⟩),.int .i64 (n:Nat),.int .i64 (most:Nat)] w (Ret fun u w'=>Chg [] w w'∧∃ Ao co,u= .tuple #[.slice Ao (lsU E l most (n+1)).length co,.int .i64 0]∧Own w' w.heap.size 9 1 Ao (lsU E l most (n+1)).length co (Bf7 (lsU E l most (n+1)))):=by
 have hC:=A8 [] w;have hg:=hD.good;have hps:=hg.pos;refine D4 Tryz.func30 J J (Qd (Zc 2 J (Qa (Qd (Z 1 J (Ca fb15 J (Ac6 F2 p E l _ hD) ?_))))));rintro _ w1 ⟨rfl,hx1⟩;have hz1:=hx1.size;have hC:=hC.s0 hx1;have hD:=hD.u hx1
 refine Z 2 J (C0 (d:=13) J (fun h1=>?_) (fun h1=>?_))
 ·try simp at h1
  all_goals first|omega|(rw [h1] at hps;simp at hps)
 ·try simp at h1
  refine Qu J (Z 1 J (Qu J (Z 3 J (C0 (d:=17) J (fun h2=>?_) (fun h2=>?_)))))
  ·try simp at h2
   all_goals omega
  ·try simp at h2
   refine Qu J (Z 1 J (Qu J (Z 3 J (C0 (d:=21) J (fun h3=>?_) (fun h3=>?_)))))
   ·try simp at h3
    all_goals omega
   ·try simp at h3
    refine Qu J (Z 1 J (Qu J (Z 3 J (C0 (d:=25) J (fun h4=>?_) (fun h4=>?_)))))
    ·try simp at h4
     all_goals omega
    ·try simp at h4
     refine Qu J (Z 1 J (Qu J (Zc 2 J (A4 J (fun h5=>?_) (fun h5=>?_)))))
     ·try simp at h5
      all_goals omega
     ·try simp at h5
      refine A7 (Qd (Z 1 J (C9 J (Bc3 u31 J) (Z 1 J (Ca fb53 J (Bn4 F2 p E l n hn _ (fun x h=>by have:=hFw2 x h;omega) hD) ?_)))));rintro v9 w2 ⟨hx2,pc,rfl,Ab,cb,Al,cl,gs,hK⟩;have hz2:=hx2.size;refine Z 1 J (C9 J (B0 zr102 pl102 J (by rfl)) ?_);refine B5 J (E1 J J) ?_;intro b3 w3 hb3 hs3 hx3 hB3;have hC:=hC.s0 (hx2.s0 hx3);have hD:=hD.u (hx2.s0 hx3);have hK:=hK.u hx3;have hB0:Blk w3 b3 (lisC pc most none 0 0) 102:=hB3;have hpl:(World.heap w2).size≤b3:=by omega
      have hww:w.heap.size≤w2.heap.size:=by omega
      try have hlB0:=hB0.lt
      refine Zc 1 J (Qa (Qd (Zc 1 J (B2 (D9 (σ:=Nat × Option Addr × Nat) (fun (k,Ao,co)=>[(1,.int .i64 (n:Nat)),(2,.int .i64 (most:Nat)),(8,.pointer (some ⟨b3,0,none⟩)),(9,.int .i64 (k:Nat))]) (fun (k,Ao,co) wr=>Chg [] w wr∧CntM (FR w1.heap.size w2.heap.size []) wr pc p E l (n+1) Ab cb Al cl gs∧IsDfa F2 wr p E l∧Blk wr b3 (lisC pc most Ao (lsU E l most k).length co) 102∧Own wr (World.heap w2).size 9 1 Ao (lsU E l most k).length co (Bf7 (lsU E l most k))∧k≤n+1) (fun (k,Ao,co) wr=>n+1 - k) (0,none,0) (sb J) ?_ ?_)))))
      ·exact ⟨hC,hK,hD,hB0,Own.nil _ _ _ _,Ek5 _⟩
      rintro ⟨k,Ao,co⟩ w40 ⟨hC,hK,hD,hB0,hO,hk⟩;have hll:=Ea0 E l most hmo k;have hlb:=hB0.lt;unfold lisC at hB0
      try have hlB0:=hB0.lt
      refine Qa (I0 (fun e9 wr=>Sub [(1,.int .i64 (n:Nat)),(2,.int .i64 (most:Nat)),(8,.pointer (some ⟨b3,0,none⟩)),(9,.int .i64 (k:Nat)),(47,.bool (decide (k≤n∧(lsU E l most k).length<most)))] e9∧Chg [] w wr∧CntM (FR w1.heap.size w2.heap.size []) wr pc p E l (n+1) Ab cb Al cl gs∧IsDfa F2 wr p E l∧Blk wr b3 [.pointer (some ⟨pc,0,none⟩),.int .i64 (most:Nat),.slice Ao (lsU E l most k).length co] 102∧Own wr (World.heap w2).size 9 1 Ao (lsU E l most k).length co (Bf7 (lsU E l most k))) ?_ ?_)
      ·refine Qb (Z 4 J (C0 (d:=39) J (fun g1=>?_) (fun g1=>?_)))
       ·try simp at g1
        refine Qu J (Z 1 J (Qu J (Z 1 J (Qu J (Fa Bm7 J (Qu J (Lb o49 J ‹_› (by rfl) ?_)))))));refine Qu J (Ln Tryz.underlying49 J (Qu J (Z 1 J (Qu J (Zc 2 J ⟨⟨rfl,rfl,rfl,rfl,(H0 J (by rw [El0,cmpB_lss,El1];omega)),trivial⟩,?_⟩)))));exact ⟨hC,hK,hD,hB0,hO⟩
       ·try simp at g1
        refine Qk J (Qk J (Qk J (Qk J (Qk J (Qk J (Qk J (Zc 1 J ⟨⟨rfl,rfl,rfl,rfl,(H0 J (by rw [Ek9 (by omega)])),trivial⟩,?_⟩)))))));exact ⟨hC,hK,hD,hB0,hO⟩
      rintro e9 w50 ⟨hs9,hC,hK,hD,hB0,hO⟩;refine H9 _ hs9 ?_;clear hs9 e9
      try have hlB0:=hB0.lt
      refine A4 J (fun g2=>?_) (fun g2=>?_)
      ·have g2:=Eo4 g2;have hOb0:=hO.blk
       have hOb:∀ x∈b3::E6 Ao,w2.heap.size≤x:=fun x hx=>by
        rcases En6.1 hx with rfl|hx
        ·exact hpl
        ·exact (hOb0 x hx).1
       have hSF:∀ b∈b3::E6 Ao,¬ FR w1.heap.size w2.heap.size [] b:=fun b hb h=>by have:=hOb b hb;have:=h.2.1;omega
       have hSF2:∀ b∈b3::E6 Ao,¬ F2 b:=fun b hb h=>by have:=hOb b hb;have:=hFw2 b h;omega
       have hcall:=De7 E l most k 0 [] (lsU E l most k) (FR w1.heap.size w2.heap.size []) F2 pc p b3 (n+1) w2.heap.size Ab cb Al cl gs none 0 Ao co w50 (by omega) hps (by simp) (by simp;omega) hll hmo (fun x h=>h.2.1) (fun x h=>by have:=hFw2 x h;omega) hpl (by omega) hK hD hB0 hO (Own.nil _ _ _ _);rw [← Bg4] at hcall;refine A7 (Qa (B2 (Qb (Z 2 J (Ca fb54 J (hcall) ?_)))));rintro _ w4 ⟨hx4,Ao3,co3,hB0',hO',hsub3⟩;have hC:=hC.step hx4 (by intro x h;have:=hOb x h;exact .inr (by omega));have hK:=hK.q hx4 ‹_›;have hD:=hD.q hx4 ‹_›;clear hB0;have hB0:=hB0';clear hB0';clear hO;have hO:=hO';clear hO';refine Qc (Qb (Z 1 J (Ad J J (by omega) (Zc 1 J ⟨(k+1,Ao3,co3),sb J,?_,?_⟩))));exact ⟨hC,hK,hD,hB0,hO,by omega⟩;show n+1 - (k+1)<n+1 - k;omega
      ·have g2:=Et4 g2
       have hfin:lsU E l most (n+1)=lsU E l most k:=by
        by_cases h:k=n+1
        ·rw [h]
        ·have:=De4 E l most k (by omega) (n+1 - k);rw [show k+(n+1 - k)=n+1 by omega] at this;exact this
       rw [hfin];refine Xb (Qd (Z 2 J (Fa Bm7 J (Lb o49 J ‹_› (by rfl) ?_))));exact Zc 2 J (A6 (J7 J J J ⟨hC,Ao,co,rfl,hO.lower (by omega)⟩))
end Go.Clt
section
namespace Go.Clt
open Go Go.RowKit
def Bf3 (E:DE) (l:List St):Nat→Nat→List Nat→List (List Nat)
 |0,st,w=>if (l.getD st default).meant=true then [w] else []
 |n+1,st,w=>E.bytes.flatMap fun b=>Bf3 E l n (R7 E l st b) (w++[b])
theorem Cn1 (g:Nat→Int) (hg:∀ b,0≤g b):∀ (r:List Nat) (s:Int),0≤s∧s≤9223372036854775807→(r.foldl (fun s b=>Ar8 [s,g b]) s=0↔s=0∧∀ b∈r,g b=0)
 |[],s,h=>by simp
 |b::r,s,h=>by
  rw [Ep3,Bf6 _ _ h.1 h.2,Cn1 g hg r _ (K7 _ _)];have hb:=hg b;have:W9 s (g b)=0↔s=0∧g b=0:=by unfold W9;omega
  rw [this]
  constructor
  ·rintro ⟨⟨h1,h2⟩,h3⟩;refine ⟨h1,fun x hx=>?_⟩
   rcases En6.1 hx with rfl|hx
   ·exact h2
   ·exact h3 x hx
  ·rintro ⟨h1,h2⟩;exact ⟨⟨h1,h2 b (El7 ..)⟩,fun x hx=>h2 x (Em5 _ hx)⟩
theorem Ay0 {E:DE} {l:List St} (hg:DGood E l):∀ (n st:Nat) (w:List Nat),st<l.length→((Y1 E l n).getD st 0=0↔Bf3 E l n st w=[])
 |0,st,w,hst=>by
  have:(Y1 E l 0).getD st 0=if (l.getD st default).meant=true then 1 else 0:=by
   show (Bc6 l).getD st 0=_;unfold Bc6;rw [Ej8,El3,Ek0 hst,Ej8,Ek0 hst];rfl
  rw [this,Bf3]
  split<;>simp
 |n+1,st,w,hst=>by
  have hc:=Bb5 E l n
  have:(Y1 E l (n+1)).getD st 0=E.bytes.foldl (fun s b=>Ar8 [s,(Y1 E l n).getD (R7 E l st b) 0]) 0:=by
   show (Ck8 E l (Y1 E l n)).getD st 0=_;unfold Ck8;rw [Ej8,El3,Em1 hst];rfl
  rw [this,Cn1 _ (fun b=>(hc.2.get _).1) _ _ (by omega),Bf3,List.flatMap_eq_nil_iff]
  constructor
  ·rintro ⟨_,h⟩ b hb;exact (Ay0 hg n _ _ (Ai6 hg hst (hg.by_ b hb))).1 (h b hb)
  ·intro h;exact ⟨rfl,fun b hb=>(Ay0 hg n _ _ (Ai6 hg hst (hg.by_ b hb))).2 (h b hb)⟩
def Az9 (most:Nat) (out xs:List (List Nat)):List (List Nat):=if most≤out.length then out else (out++xs).take most
theorem Bh4 (most:Nat) (out:List (List Nat)):Az9 most out []=out:=by
 unfold Az9
 split
 ·rfl
 ·rw [Eo8,Em3 (by omega)]
theorem Ch8 (most:Nat) (out xs ys:List (List Nat)):Az9 most (Az9 most out xs) ys=Az9 most out (xs++ys):=by
 unfold Az9
 by_cases h:most≤out.length
 ·simp only [Ej7 h]
 ·simp only [Ej6 h];rw [Er4,Ek1]
  by_cases h2:most≤out.length+xs.length
  ·rw [Ej7 (by omega),← Es9];exact (List.take_append_of_le_length (by rw [Ek1];exact h2)).symm
  ·rw [Ej6 (by omega),Em3 (l:=out++xs) (by rw [Ek1];omega),Es9]
theorem De6 {E:DE} {l:List St} (hg:DGood E l) (most:Nat):∀ (n st:Nat) (w:List Nat) (out:List (List Nat)),st<l.length→Aa9 E l most n st w out=Az9 most out (Bf3 E l n st w)
 |0,st,w,out,hst=>by
  rw [Aa9];have hz:=Ay0 hg 0 st w hst
  by_cases h1:most≤out.length
  ·rw [Ej7 (.inl h1)];unfold Az9;rw [Ej7 h1]
  ·by_cases h2:(Y1 E l 0).getD st 0=0
   ·rw [Ej7 (.inr h2),hz.1 h2,Bh4]
   ·rw [Ej6 (by rintro (h|h);exact h1 h;exact h2 h)]
    have:Bf3 E l 0 st w=[w]:=by
     rw [Bf3]
     split
     ·rfl
     ·rename_i hm;exact absurd (hz.2 (by rw [Bf3,Ej6 hm])) h2
    rw [this];unfold Az9;rw [Ej6 h1,Em3 (by simp;omega)]
 |n+1,st,w,out,hst=>by
  rw [Aa9];have hz:=Ay0 hg (n+1) st w hst
  by_cases h1:most≤out.length
  ·rw [Ej7 (.inl h1)];unfold Az9;rw [Ej7 h1]
  ·by_cases h2:(Y1 E l (n+1)).getD st 0=0
   ·rw [Ej7 (.inr h2),hz.1 h2,Bh4]
   ·rw [Ej6 (by rintro (h|h);exact h1 h;exact h2 h),Bf3]
    have key:∀ (r:List Nat) (o:List (List Nat)),(∀ b∈r,b<256)→r.foldl (fun o b=>Aa9 E l most n (R7 E l st b) (w++[b]) o) o=Az9 most o (r.flatMap fun b=>Bf3 E l n (R7 E l st b) (w++[b])):=by
     intro r
     induction r with
     |nil=>intro o _;rw [List.flatMap_nil,Bh4];rfl
     |cons b r ih=>
      intro o hb;rw [Ep3,ih _ (fun x hx=>hb x (Em5 _ hx)),De6 hg most n _ _ o (Ai6 hg hst (hb b (El7 ..))),Ch8,Eo5]
    exact key _ _ hg.by_
def Y9 (E:DE) (l:List St) (k:Nat):List (List Nat):=(List.range k).flatMap fun i=>Bf3 E l i 0 []
theorem lsU_eq {E:DE} {l:List St} (hg:DGood E l) (most:Nat):∀ k,lsU E l most k=(Y9 E l k).take most
 |0=>by unfold lsU Y9;simp
 |k+1=>by
  rw [Bg4,De6 hg most k 0 [] _ hg.pos,lsU_eq hg most k];unfold Y9;rw [Eo6,List.flatMap_append,Eo5,List.flatMap_nil,Eo8];have:=Ch8 most [] (Y9 E l k) (Bf3 E l k 0 [])
  have h0:∀ xs,Az9 most [] xs=xs.take most:=fun xs=>by
   unfold Az9
   split
   ·rename_i h;rw [show most=0 from Nat.le_zero.1 h,Er7]
   ·rw [Ek4]
  rw [h0,h0] at this;exact this
end Go.Clt
end
section
namespace Go.Clt
open Go Go.RowKit
def Ah4 (bs:List Nat):Nat→List (List Nat)
 |0=>[[]]
 |n+1=>bs.flatMap fun b=>(Ah4 bs n).map (b::·)
theorem Bf8 (bs:List Nat):∀ n,(Ah4 bs n).length=bs.length ^ n
 |0=>rfl
 |n+1=>by
  rw [Ah4]
  have key:∀ r:List Nat,(r.flatMap fun b=>(Ah4 bs n).map (b::·)).length=r.length*bs.length ^ n:=by
   intro r
   induction r with
   |nil=>simp
   |cons b r ih=>rw [Eo5,Ek1,ih,En7,Bf8 bs n,Em9,Es5,Nat.add_comm]
  rw [key,Nat.pow_succ,Nat.mul_comm]
theorem Df5 {α β:Type} (f:α→List β) (m:Nat) (hf:∀ a,(f a).length=m):∀ (r:List α) (d i:Nat) (x:α),r[d]?=some x→i<m→(r.flatMap f)[d*m+i]?=(f x)[i]?
 |[],d,i,x,h,hi=>by simp at h
 |a::r,0,i,x,h,hi=>by
  simp only [Et0,Option.some.injEq] at h;subst h;rw [Eo5,Et8,El4,Em4 (by rw [hf];exact hi)]
 |a::r,d+1,i,x,h,hi=>by
  rw [Eo5,Em2 (by rw [hf,Es5];omega),hf];rw [show (d+1)*m+i - m=d*m+i by rw [Es5];omega];exact Df5 f m hf r d i x (by simpa using h) hi
def Ad5 (B:Nat):List Nat→Nat
 |[]=>0
 |d::a=>d*B ^ a.length+Ad5 B a
theorem Cs4 (B:Nat):∀ a:List Nat,(∀ d∈a,d<B)→Ad5 B a<B ^ a.length
 |[],_=>by simp [Ad5]
 |d::a,h=>by
  have h1:=h d (El7 ..);have h2:=Cs4 B a fun x hx=>h x (Em5 _ hx)
  rw [Ad5,Em9,Nat.pow_succ,Nat.mul_comm (B ^ a.length) B];have:(d+1)*B ^ a.length≤B*B ^ a.length:=Nat.mul_le_mul_right _ h1;rw [Es5] at this;omega
theorem Bx4 (B:Nat):∀ a b:List Nat,Ad5 B (a++b)=Ad5 B a*B ^ b.length+Ad5 B b
 |[],b=>by simp [Ad5]
 |d::a,b=>by
  rw [Ek3,Ad5,Ad5,Bx4 B a b,Ek1,Nat.pow_add,Nat.add_mul,Nat.mul_assoc,El8]
theorem Bh3 (B:Nat):∀ n,Ad5 B (List.replicate n 0)=0
 |0=>rfl
 |n+1=>by rw [Es2,Ad5,Bh3 B n,Et8]
theorem Db2 (bs:List Nat):∀ a:List Nat,(∀ d∈a,d<bs.length)→(Ah4 bs a.length)[Ad5 bs.length a]?=some (a.map fun d=>bs.getD d 0)
 |[],_=>rfl
 |d::a,h=>by
  have h1:=h d (El7 ..);have h0:=fun x hx=>h x (Em5 _ hx)
  have h2:=Cs4 bs.length a h0;rw [Em9,Ah4,Ad5,Df5 _ (bs.length ^ a.length) (fun b=>by rw [En7,Bf8]) bs d _ bs[d] (Ek0 h1) h2,El3,Db2 bs a h0,Em8,Ej8,Ek0 h1];rfl
theorem Bo9 {E:DE} {l:List St}:∀ (n st:Nat) (w:List Nat),Bf3 E l n st w=((Ah4 E.bytes n).filter fun v=>(l.getD (v.foldl (R7 E l) st) default).meant).map (w++·)
 |0,st,w=>by
  rw [Bf3,Ah4]
  by_cases h:(l.getD st default).meant=true
  ·rw [Ej7 h,List.filter_cons_of_pos (by exact h)];simp
  ·rw [Ej6 h,List.filter_cons_of_neg (by exact h)];simp
 |n+1,st,w=>by
  rw [Bf3,Ah4,List.filter_flatMap,List.map_flatMap]
  congr 1
  funext b
  rw [Bo9 n,List.filter_map,List.map_map];apply Ep8;intro v _;simp
theorem Eh5 {t:R8} {E:DE} {l:List St} (hlaw:∀ L:List Nat,(∀ b∈L,b<256)→(l.getD (Dr5 E l L) default).meant=decide (0<Bx2 t L)) (hby:∀ b∈E.bytes,b<256) (n:Nat):Bf3 E l n 0 []=(Ah4 E.bytes n).filter fun v=>decide (0<Bx2 t v):=by
 rw [Bo9];have hm:∀ L:List (List Nat),L.map ([]++·)=L:=fun L=>by simp
 rw [hm];apply List.filter_congr;intro v hv;refine hlaw v ?_
 have key:∀ n v,v∈Ah4 E.bytes n→∀ b∈v,b∈E.bytes:=by
  intro n
  induction n with
  |zero=>intro v hv;rw [Ah4,Ej9] at hv;subst hv;simp
  |succ n ih=>
   intro v hv;rw [Ah4,List.mem_flatMap] at hv;obtain ⟨b,hb,hv⟩:=hv;obtain ⟨u,hu,rfl⟩:=Eo7.1 hv;intro c hc
   rcases En6.1 hc with rfl|hc
   ·exact hb
   ·exact ih u hu c hc
 exact fun b hb=>hby b (key n v hv b hb)
theorem Df4 (g:Nat→Nat):∀ (r:List Nat) (s:Nat),r.foldl (fun s b=>Ar8 [s,min 9223372036854775807 ((g b:Nat):Int)]) (min 9223372036854775807 (s:Int))=min 9223372036854775807 (((s+(r.map g).sum:Nat)):Int)
 |[],s=>by simp
 |b::r,s=>by
  rw [Ep3,Bf6 _ _ (by omega) (by omega)];have:W9 (min 9223372036854775807 (s:Int)) (min 9223372036854775807 ((g b:Nat):Int))=min 9223372036854775807 ((s+g b:Nat):Int):=by unfold W9;omega
  rw [this,Df4 g r (s+g b),Em8,List.sum_cons,El8]
theorem Dh1 {E:DE} {l:List St} (hg:DGood E l):∀ (n st:Nat) (w:List Nat),st<l.length→(Y1 E l n).getD st 0=min 9223372036854775807 ((Bf3 E l n st w).length:Int)
 |0,st,w,hst=>by
  have:(Y1 E l 0).getD st 0=if (l.getD st default).meant=true then 1 else 0:=by
   show (Bc6 l).getD st 0=_;unfold Bc6;rw [Ej8,El3,Ek0 hst,Ej8,Ek0 hst];rfl
  rw [this,Bf3]
  split
  ·show (1:Int)=min 9223372036854775807 1;omega
  ·show (0:Int)=min 9223372036854775807 0;omega
 |n+1,st,w,hst=>by
  have:(Y1 E l (n+1)).getD st 0=E.bytes.foldl (fun s b=>Ar8 [s,(Y1 E l n).getD (R7 E l st b) 0]) 0:=by
   show (Ck8 E l (Y1 E l n)).getD st 0=_;unfold Ck8;rw [Ej8,El3,Em1 hst];rfl
  rw [this,Bf3,List.length_flatMap]
  have key:∀ (r:List Nat) (s:Int),(∀ b∈r,b<256)→r.foldl (fun s b=>Ar8 [s,(Y1 E l n).getD (R7 E l st b) 0]) s=r.foldl (fun s b=>Ar8 [s,min 9223372036854775807 (((Bf3 E l n (R7 E l st b) (w++[b])).length:Nat):Int)]) s:=by
   intro r
   induction r with
   |nil=>intro s _;rfl
   |cons b r ih=>
    intro s hb;rw [Ep3,Ep3,Dh1 hg n _ (w++[b]) (Ai6 hg hst (hb b (El7 ..)))];exact ih _ fun x hx=>hb x (Em5 _ hx)
  rw [key _ _ hg.by_];have:=Df4 (fun b=>(Bf3 E l n (R7 E l st b) (w++[b])).length) E.bytes 0;rw [El4] at this;exact this
end Go.Clt
end
namespace Go.Clt
open Go Go.RowKit Go.Proofs
section
section
variable {P:Program} {n:Nat} {e:Env} {w:World} {t:TypeId} {p:String} {af:Array Edge} {dst:Option Tmp} {g:Option (Nat × Bool)} {φ:World→Prop}
theorem Cf9 {τ:TypeId} {sz:Nat} {x y z:Operand} {b o m c:Nat} {k k2:IntKind} {i j:Nat} (ht:slB P τ sz=true) (hx:ev e x=some (.slice (some ⟨b,o,none⟩) m c)) (hy:ev e y=some (.int k (i:Nat))) (hz:ev e z=some (.int k2 (j:Nat))) (hij:i≤j) (hj:j≤c) (hic:i<c):
  Does P n e ⟨dst,.slice τ x (some y) (some z) none,t,p,af,g⟩ φ (.slice (some ⟨b,o+i*sz,none⟩) (j - i) (c - i)):=fun a w ha _=>by
 obtain ⟨el,inf,hu,hi,hs⟩:=Av1 ht;have h:(0:Int)≤(i:Int)∧(i:Int)≤(j:Int):=⟨by omega,by omega⟩;have h1:(0:Int)≤(j:Int)∧(j:Int)≤(c:Int):=⟨by omega,by omega⟩;have h3:¬ c=i:=by omega
 simp [execOp,ha.ev hx,ha.ev hy,ha.ev hz,Instr.sliceAt,Instr.slice,run_underlying hu,Instr.sliceBounds,Instr.sliceBound,asIntOf,h,h1,hij,hj,sizeOf,typeInfo,hi,hs,h3,Addr.add]
end
theorem Rd.sub {F:Nat→Prop} {w:World} {b o n i:Nat} {cs:List Value} {v:Value} (h:Rd F w 1 (some ⟨b,o,none⟩) n cs) (hi:cs[i]?=some v) (hin:i<n):Rd F w 1 (some ⟨b,o+i*1,none⟩) 1 [v]:=by
 obtain ⟨g,off,hA,hF,hlt,hc⟩:=h.at_ (by omega);injection hA with hA
 injection hA with h1 h2
 subst h1 h2;refine ⟨rfl,fun _=>⟨b,o+i*1,rfl,hF,hlt,fun j u hj=>?_⟩⟩
 have hj0:j=0:=by
  rcases Nat.eq_zero_or_pos j with h|h
  ·exact h
  ·rw [El2 (by simp;omega)] at hj;cases hj
 subst hj0;have:u=v:=by simpa using hj.symm
 subst this;rw [En5,Eu6];exact hc i u hi
def posF (t:R8) (v:List Nat):Bool:=decide (0<Bx2 t v)
def Bq3 (t:R8) (E:DE) (n c:Nat):List (List Nat):=((Ah4 E.bytes n).take c).filter (posF t)
def Ar6 (E:DE) (a:List Nat):List Nat:=a.map fun d=>E.bytes.getD d 0
theorem Dx1 {t:R8} {E:DE} {a:List Nat} (h:∀ d∈a,d<E.bytes.length):Bq3 t E a.length (Ad5 E.bytes.length a+1)=Bq3 t E a.length (Ad5 E.bytes.length a)++(if 0<Bx2 t (Ar6 E a) then [Ar6 E a] else []):=by
 unfold Bq3;rw [Ep9,Db2 E.bytes a h,Eq1]
 congr 1
 show [Ar6 E a].filter (posF t)=_;unfold posF
 split
 ·rename_i hw;rw [List.filter_cons_of_pos (by exact Ek8 hw)];rfl
 ·rename_i hw;rw [List.filter_cons_of_neg (by simpa using hw)];rfl
theorem outC_len (t:R8) (E:DE) (n c:Nat):(Bq3 t E n c).length≤c:=by
 unfold Bq3;exact En2 (Es6 _ _) (by rw [Er4];omega)
theorem Cg9 (a:List Nat) (j:Nat) (hj:0<j) (hl:j≤a.length) (v:Nat):(P4 (a.take j++List.replicate (a.length - j) 0)).take (j - 1)++[Value.int .i64 ((v:Nat):Int)]++(P4 (a.take j++List.replicate (a.length - j) 0)).drop (j - 1+1)=P4 (a.take (j - 1)++v::List.replicate (a.length - j) 0):=by
 have h1:a.take j=a.take (j - 1)++[a.getD (j - 1) 0]:=by
  have:=Ep9 (l:=a) (i:=j - 1);rw [show j - 1+1=j by omega] at this;rw [this,Ek0 (by omega),Ej8,Ek0 (by omega)];rfl
 have h2:(P4 (a.take (j - 1))).length=j - 1:=by unfold P4;rw [En7,Er4];omega
 have h4:a.take j++List.replicate (a.length - j) 0=a.take (j - 1)++([a.getD (j - 1) 0]++List.replicate (a.length - j) 0):=by rw [h1,Es9]
 rw [h4];have h3:P4 (a.take (j - 1)++([a.getD (j - 1) 0]++List.replicate (a.length - j) 0))=P4 (a.take (j - 1))++(Value.int .i64 ((a.getD (j - 1) 0:Nat):Int)::P4 (List.replicate (a.length - j) 0)):=by unfold P4;simp
 rw [h3,List.take_append_of_le_length (by omega),Em3 (by omega),List.drop_append,h2,List.drop_eq_nil_of_le (by omega),show j - 1+1 - (j - 1)=1 by omega];unfold P4;simp
theorem all31_c (t:R8) (k:Kn) (q:Wst) (E:DE) (l:List St) (pd:Nat) (n:Nat) (hg8:G8 t) (hpl:B8 t≤10) (hn:n≤100) (hBn:E.bytes.length ^ n≤5000) (As:Option Addr) (cS pf pl bt:Nat) (bf:List Nat) (G:Nat→Prop) (w:World) (hG:∀ x,G x→x<w.heap.size) (hD:IsDfa G w pd E l) (hU:RAu G w t As pf pl bt bf):
  Calls P 31 #[.pointer (some ⟨pd,0,none⟩),.agg (Br1 t As cS pf pl bt).toArray,.int .i64 (n:Nat),.int .i64 10000] w (Ret fun u w'=>Chg [] w w'∧∃ Ao co,u= .slice Ao ((Ah4 E.bytes n).filter (posF t)).length co∧Own w' w.heap.size 9 1 Ao ((Ah4 E.bytes n).filter (posF t)).length co (Bf7 ((Ah4 E.bytes n).filter (posF t)))):=by
 have hC:=A8 [] w;have hg:=hD.good;have hB0:0<E.bytes.length:=by rw [hg.bl];have:=hg.fv 0 (by omega);omega
 have hby:=hg.by_;have hBl:E.bytes.length≤256:=by rw [hg.bl];exact hg.nb
 unfold Br1;refine D4 Tryz.func31 J J (Qd (B5 J (E1 J J) ?_));intro b1 w1 hb1 hs1 hx1 hB1;have hD:=hD.u hx1;refine Zc 1 J (Qd (Z 1 J (Ca fb22 J (Ce7 G pd E l _ (fun x hx=>by have:=hG x hx;omega) hD) ?_)));rintro _ w2 ⟨hx2,Ab,cb,rfl,hO9⟩;have hz2:=hx2.size;have hcap:=hO9.cap;have hH:=hO9.rd (F:=fun x=>x<(World.heap w2).size) (fun _ _ h=>h);generalize hz0d:(World.heap w2).size=hz0 at*;have hwz:w.heap.size≤hz0:=by omega
 have hF:∀ x,G x→x<hz0:=fun x hx=>by have:=hG x hx;omega
 obtain ⟨gB,oB,rfl,_,_,_⟩:=hH.at_ (by omega);refine Zc 1 J (Qd (Zc 1 J (Qd (Z 1 J (B5 J (O8 Dg4 zr3 J (cs:=P4 (List.replicate n 0)) (by omega) (by omega) (by show (madeCells #[_] (((n:Nat):Int).toNat*1)).toList=_;rw [Ek6,En5,T3];simp [P4])) ?_)))));intro b3 w3 hb3 hs3 hx3 hBA;have hC:=hC.s0 ((hx1.s0 hx2).s0 hx3);have hU:=hU.u ((hx1.s0 hx2).s0 hx3);have hB1:=hB1.u (hx2.s0 hx3);have hH:=hH.u hx3;have hzero:=Bh3 E.bytes.length n
 refine Zc 1 J (Qa (B2 (D9 (σ:=List Nat × Option Addr × Nat) (fun (a,Ao,co)=>[(2,.int .i64 (n:Nat)),(3,.int .i64 10000),(5,.pointer (some ⟨b1,0,none⟩)),(9,.slice (some ⟨gB,oB,none⟩) E.bytes.length cb),(10,.slice Ao (Bq3 t E n (Ad5 E.bytes.length a)).length co),(11,.slice (some ⟨b3,0,none⟩) n n)]) (fun (a,Ao,co) wr=>Chg [] w wr∧RAu G wr t As pf pl bt bf∧Blk wr b1 [.slice As (O3 t).length cS,.int .i64 (N5 t),.slice (some ⟨pf,0,none⟩) (B8 t) (B8 t),.slice (some ⟨pl,0,none⟩) (B8 t) (B8 t),.slice (some ⟨bt,0,none⟩) (B8 t) (B8 t)] 27∧Rd (fun x=>x<hz0) wr 1 (some ⟨gB,oB,none⟩) E.bytes.length (bys E.bytes)∧hz0≤wr.heap.size∧Own wr hz0 9 1 Ao (Bq3 t E n (Ad5 E.bytes.length a)).length co (Bf7 (Bq3 t E n (Ad5 E.bytes.length a)))∧Blk wr b3 (P4 a) 3∧a.length=n∧(∀ d∈a,d<E.bytes.length)) (fun (a,Ao,co) wr=>E.bytes.length ^ n - Ad5 E.bytes.length a) (List.replicate n 0,none,0) ⟨rfl,rfl,rfl,rfl,(Q2 J (by rw [hzero];rfl)),rfl,trivial⟩ ?_ ?_)))
 ·refine ⟨hC,hU,hB1,hH,by omega,?_,hBA,by simp,fun d hd=>by rw [(List.mem_replicate.1 hd).2];exact hB0⟩;rw [hzero];exact Own.nil _ _ _ _
 rintro ⟨a,Ao,co⟩ w20 ⟨hC,hU,hB1,hH,hz20,hO,hBA,hal,had⟩;have hvl:=Cs4 E.bytes.length a had;rw [hal] at hvl;have hol:=outC_len t E n (Ad5 E.bytes.length a)
 refine Qa (Qd (Z 1 J (Ln Tryz.underlying49 J (Z 3 J (C0 (d:=23) J (fun g1=>?_) (fun g1=>?_))))))
 ·try simp at g1
  refine Qu J (Z 1 J (Qu J (Ln Tryz.underlying44 J (Qu J (Zc 2 J (A4 J (fun g2=>?_) (fun g2=>?_)))))))
  ·try simp at g2
   refine A7 (B2 (Qd (Zc 1 J (Qa (Qd (Zc 1 J (B2 (D9 (σ:=Nat) (fun i=>[(2,.int .i64 (n:Nat)),(3,.int .i64 10000),(5,.pointer (some ⟨b1,0,none⟩)),(9,.slice (some ⟨gB,oB,none⟩) E.bytes.length cb),(10,.slice Ao (Bq3 t E n (Ad5 E.bytes.length a)).length co),(11,.slice (some ⟨b3,0,none⟩) n n),(12,.string (Be6 (Ar6 E (a.take i)))),(13,.int .i64 (i:Nat))]) (fun i wr=>Chg [] w wr∧RAu G wr t As pf pl bt bf∧Blk wr b1 [.slice As (O3 t).length cS,.int .i64 (N5 t),.slice (some ⟨pf,0,none⟩) (B8 t) (B8 t),.slice (some ⟨pl,0,none⟩) (B8 t) (B8 t),.slice (some ⟨bt,0,none⟩) (B8 t) (B8 t)] 27∧Rd (fun x=>x<hz0) wr 1 (some ⟨gB,oB,none⟩) E.bytes.length (bys E.bytes)∧hz0≤wr.heap.size∧Own wr hz0 9 1 Ao (Bq3 t E n (Ad5 E.bytes.length a)).length co (Bf7 (Bq3 t E n (Ad5 E.bytes.length a)))∧Blk wr b3 (P4 a) 3∧i≤n) (fun i wr=>n - i) 0 (sb J) ?_ ?_))))))))
   ·exact ⟨hC,hU,hB1,hH,by omega,hO,hBA,Ek5 _⟩
   rintro i w30 ⟨hC,hU,hB1,hH,hz30,hO,hBA,hi⟩
   try have hlBA:=hBA.lt
   refine Qa (Qd (Zc 3 J (A4 J (fun h1=>?_) (fun h1=>?_))))
   ·try simp at h1
    have hin:i<n:=by omega
    have hdi:=had _ (H5 a 0 i (by omega));have hbi:=hby _ (H5 E.bytes 0 (a.getD i 0) hdi);have hs1:=Af3 (Ar6 E (a.take i));have hs2:(Be6 [E.bytes.getD (a.getD i 0) 0]).size=1:=Af3 _;have hs3:(Ar6 E (a.take i)).length=i:=by unfold Ar6;rw [En7,Er4];omega
    have hnx:Ar6 E (a.take i)++[E.bytes.getD (a.getD i 0) 0]=Ar6 E (a.take (i+1)):=by
     unfold Ar6;rw [Ep9,Ek0 (by omega),En9,Ej8 (l:=a),Ek0 (by omega)];rfl
    refine A7 (Qa (B2 (C7 (S:=[]) 13 [(0,0),(0,1),(0,2),(0,3),(0,4),(0,5),(0,6),(0,7),(0,8),(0,9),(0,10),(0,11),(1,12),(2,13),(2,14)] mo (by kernel_rfl) ?_)));intro w4 hx4 hh4;have hC:=hC.s0 hx4;have hU:=hU.u hx4;have hB1:=hB1.u hx4;have hH:=hH.u hx4;have hO:=hO.u hx4;have hBA:=hBA.u hx4;have hCS4:=A8 ([]) w4;refine Z 4 J (D5 J (B1 T7 J J (by omega) (by omega)) (D5 J (D7 o3 J (by rw [hBA.cell,El4];exact Y7 a i (by omega)) (by simp;done)) ?_));refine Z 2 J (D5 J (B1 T7 J J (by omega) (by omega)) (D5 J (D7 o3 J (by rw [hBA.cell,El4];exact Y7 a i (by omega)) (by simp;done)) ?_));refine D5 J ((Bq2 J J (by omega)).to (J5 (show ((a.getD i 0:Nat):Int)+1=((a.getD i 0+1:Nat):Int) by omega))) ?_;refine D5 J ((Cf9 Aj2 J J J (by omega) (by omega) (by omega)).to (congrArg (fun z=>Value.slice (some ⟨gB,oB+a.getD i 0*1,none⟩) z (cb - a.getD i 0)) (show a.getD i 0+1 - a.getD i 0=1 by omega))) ?_;refine Cf7 J (Y5 (l:=[E.bytes.getD (a.getD i 0) 0]) (F:=fun _=>True) J J (fun x hx=>by rw [Ej9] at hx;rw [hx];exact hbi) (Rd.mono (hH.sub (At9 E.bytes _ hdi) hdi) (fun _ _ _=>trivial))) ‹_› ?_;refine C9 J ((Az3 J J (by omega)).to (congrArg Value.string ((Ad4 _ _).trans (by rw [hnx])))) ?_;refine Zc 1 J (Qb (Z 1 J (Ad J J (by omega) (Zc 1 J ⟨i+1,sb J,?_,?_⟩))));exact ⟨hC,hU,hB1,hH,by omega,hO,hBA,hin⟩;show n - (i+1)<n - i;omega
   ·try simp at h1
    have hii:i=n:=by omega
    rw [hii,Em3 (by omega)];have hsz:=Af3 (Ar6 E a);have hsl:(Ar6 E a).length=n:=by unfold Ar6;rw [En7];exact hal
    have hw8:∀ b∈Ar6 E a,b<256:=fun b hb=>by
     obtain ⟨d,hd,rfl⟩:=Eo7.1 hb;exact hby _ (H5 E.bytes 0 d (had d hd))
    have hos:=Dx1 (t:=t) had;rw [hal] at hos
    refine Xb (I0 (fun e9 wr=>∃ A2 c2,Sub [(2,.int .i64 (n:Nat)),(3,.int .i64 10000),(5,.pointer (some ⟨b1,0,none⟩)),(9,.slice (some ⟨gB,oB,none⟩) E.bytes.length cb),(10,.slice A2 (Bq3 t E n (Ad5 E.bytes.length a+1)).length c2),(11,.slice (some ⟨b3,0,none⟩) n n)] e9∧Chg [] w wr∧RAu G wr t As pf pl bt bf∧Blk wr b1 [.slice As (O3 t).length cS,.int .i64 (N5 t),.slice (some ⟨pf,0,none⟩) (B8 t) (B8 t),.slice (some ⟨pl,0,none⟩) (B8 t) (B8 t),.slice (some ⟨bt,0,none⟩) (B8 t) (B8 t)] 27∧Rd (fun x=>x<hz0) wr 1 (some ⟨gB,oB,none⟩) E.bytes.length (bys E.bytes)∧hz0≤wr.heap.size∧Own wr hz0 9 1 A2 (Bq3 t E n (Ad5 E.bytes.length a+1)).length c2 (Bf7 (Bq3 t E n (Ad5 E.bytes.length a+1)))∧Blk wr b3 (P4 a) 3) ?_ ?_)
    ·refine Qd (La Cr4 J ‹_› J J ?_);refine Z 1 J (Ca fb21 J (rways_c t hg8 (by omega) (Be6 (Ar6 E a)) (by omega) As cS pf pl bt bf G _ (fun z hz=>by have:=hG z hz;omega) hU) ?_);rintro _ w5 ⟨rfl,hx5⟩;have hz5:=hx5.size;have hC:=hC.s0 hx5;have hU:=hU.u hx5;have hB1:=hB1.u hx5;have hH:=hH.u hx5;have hO:=hO.u hx5;have hBA:=hBA.u hx5
     refine Zc 1 J (A4 J (fun m1=>?_) (fun m1=>?_))
     ·rw [Ba0 _ hw8,cmpB_gtr] at m1;rw [Ej7 m1] at hos;have hOb:=hO.blk;have hOA:=hO.offBlk hBA (by decide);have hbaA:b3∉E6 Ao:=fun h=>hOA b3 h (by simp)
      have hb1A:b1∉E6 Ao:=fun h=>by have:=(hOb _ h).1;omega
      refine Qb (Z 2 J (B5 J (B6 sl49 Tryz.underlying49 zr9 J J J (by rfl)) ?_));intro b6 w6 hb6 hs6 hx6 hB6;have hC:=hC.s0 hx6;have hU:=hU.u hx6;have hB1:=hB1.u hx6;have hH:=hH.u hx6;have hO:=hO.u hx6;have hBA:=hBA.u hx6;refine G1 J el49 J J hO (Blk.rd (F:=fun _=>True) ‹_› J trivial) (by rfl) (by omega) (by omega) ?_;intro A' c' w7 hO7 hx7 hA';have hz7:=hx7.size;have hC:=hC.step hx7 (by intro x h;have:=hOb x h;exact .inr (by omega));have hU:=hU.q hx7 (by intro x hx hf;have:=hOb x hx;have:=hF x hf;omega);have hB1:=hB1.q hx7 ‹_›;have hH:=hH.q hx7 (by intro x h;have:=hOb x h;first|omega|exact .inr (by omega));have hBA:=hBA.q hx7 ‹_›
      replace hO:=hO7
      refine Zc 1 J ⟨A',c',⟨rfl,rfl,rfl,rfl,(Q2 J (by rw [hos,Ek1];rfl)),rfl,trivial⟩,?_⟩;refine ⟨hC,hU,hB1,hH,by omega,?_,hBA⟩;rw [hos,Ek1];unfold Bf7;rw [En9];exact hO
     ·rw [Ba0 _ hw8,cmpB_gtrF] at m1;rw [Ej6 (by omega),Eo8] at hos;refine A7 ⟨Ao,co,⟨rfl,rfl,rfl,rfl,(Q2 J (by rw [hos])),rfl,trivial⟩,?_⟩;exact ⟨hC,hU,hB1,hH,by omega,by rw [hos];exact hO,hBA⟩
    rintro e9 w50 ⟨A2,c2,hs9,hC,hU,hB1,hH,hz50,hO,hBA⟩;refine H9 _ hs9 ?_;clear hs9 e9
    refine Qd (Z 1 J (Su J J (by omega) (Zc 1 J (Qa (B2 (D9 (σ:=Nat) (fun jn=>[(2,.int .i64 (n:Nat)),(3,.int .i64 10000),(5,.pointer (some ⟨b1,0,none⟩)),(9,.slice (some ⟨gB,oB,none⟩) E.bytes.length cb),(10,.slice A2 (Bq3 t E n (Ad5 E.bytes.length a+1)).length c2),(11,.slice (some ⟨b3,0,none⟩) n n),(14,.int .i64 ((jn:Int) - 1))]) (fun jn wr=>Chg [] w wr∧RAu G wr t As pf pl bt bf∧Blk wr b1 [.slice As (O3 t).length cS,.int .i64 (N5 t),.slice (some ⟨pf,0,none⟩) (B8 t) (B8 t),.slice (some ⟨pl,0,none⟩) (B8 t) (B8 t),.slice (some ⟨bt,0,none⟩) (B8 t) (B8 t)] 27∧Rd (fun x=>x<hz0) wr 1 (some ⟨gB,oB,none⟩) E.bytes.length (bys E.bytes)∧hz0≤wr.heap.size∧Own wr hz0 9 1 A2 (Bq3 t E n (Ad5 E.bytes.length a+1)).length c2 (Bf7 (Bq3 t E n (Ad5 E.bytes.length a+1)))∧Blk wr b3 (P4 (a.take jn++List.replicate (a.length - jn) 0)) 3∧Ad5 E.bytes.length a+1=(Ad5 E.bytes.length (a.take jn)+1)*E.bytes.length ^ (a.length - jn)∧jn≤n) (fun jn wr=>jn) n (sb J) ?_ ?_))))))
    ·refine ⟨hC,hU,hB1,hH,by omega,hO,?_,?_,Ek7 _⟩;rw [← hal,Eu5,Em3 (Ek7 _),List.replicate_zero,Eo8];exact hBA;rw [← hal,Eu5,Em3 (Ek7 _),Nat.pow_zero,En5]
    rintro jn w60 ⟨hC,hU,hB1,hH,hz60,hO,hBA,hval,hjn⟩;have hcl:(P4 (a.take jn++List.replicate (a.length - jn) 0)).length=n:=by unfold P4;rw [En7,Ek1,Er4,En1];omega
    have hlst:0<jn→(P4 (a.take jn++List.replicate (a.length - jn) 0))[jn - 1]?=some (.int .i64 ((a.getD (jn - 1) 0:Nat):Int)):=fun h=>by
     unfold P4;rw [El3,Em4 (by rw [Er4];omega),List.getElem?_take_of_lt (by omega),Ek0 (by omega),Ej8,Ek0 (by omega)];rfl
    have htk:0<jn→Ad5 E.bytes.length (a.take jn)=Ad5 E.bytes.length (a.take (jn - 1))*E.bytes.length+a.getD (jn - 1) 0:=fun h=>by
     have:=Ep9 (l:=a) (i:=jn - 1);rw [show jn - 1+1=jn by omega] at this;rw [this,Ek0 (by omega),Bx4,Ej8,Ek0 (by omega)];show _*E.bytes.length ^ 1+(a[jn - 1]*E.bytes.length ^ 0+0)=_;rw [Nat.pow_one,Nat.pow_zero,En5,Eu6];rfl
    refine Qa (I0 (fun e9 wr=>Sub [(2,.int .i64 (n:Nat)),(3,.int .i64 10000),(5,.pointer (some ⟨b1,0,none⟩)),(9,.slice (some ⟨gB,oB,none⟩) E.bytes.length cb),(10,.slice A2 (Bq3 t E n (Ad5 E.bytes.length a+1)).length c2),(11,.slice (some ⟨b3,0,none⟩) n n),(14,.int .i64 ((jn:Int) - 1)),(68,.bool (decide (0<jn∧a.getD (jn - 1) 0+1=E.bytes.length)))] e9∧Chg [] w wr∧RAu G wr t As pf pl bt bf∧Blk wr b1 [.slice As (O3 t).length cS,.int .i64 (N5 t),.slice (some ⟨pf,0,none⟩) (B8 t) (B8 t),.slice (some ⟨pl,0,none⟩) (B8 t) (B8 t),.slice (some ⟨bt,0,none⟩) (B8 t) (B8 t)] 27∧Rd (fun x=>x<hz0) wr 1 (some ⟨gB,oB,none⟩) E.bytes.length (bys E.bytes)∧hz0≤wr.heap.size∧Own wr hz0 9 1 A2 (Bq3 t E n (Ad5 E.bytes.length a+1)).length c2 (Bf7 (Bq3 t E n (Ad5 E.bytes.length a+1)))∧Blk wr b3 (P4 (a.take jn++List.replicate (a.length - jn) 0)) 3) ?_ ?_)
    ·refine Qb (Z 3 J (C0 (d:=59) J (fun g5=>?_) (fun g5=>?_)))
     ·try simp at g5
      refine Qu J (Z 1 J (Qu J (Z 1 J (Qu J (C9 J (B1 T7 J J (by omega) (by omega)) (Qu J (Lc o3 J (by rw [hBA.cell,El4,show ((jn:Int) - 1).toNat=jn - 1 by omega];exact hlst (by omega)) ?_)))))));refine Qu J (Z 1 J (Qu J (Ln Tryz.underlying44 J (Qu J (Su J J (by omega) (Qu J (Zc 2 J ⟨⟨rfl,rfl,rfl,rfl,rfl,rfl,rfl,(H0 J (by rw [El0,cmpB_eql,El1];omega)),trivial⟩,?_⟩)))))));exact ⟨hC,hU,hB1,hH,by omega,hO,hBA⟩
     ·try simp at g5
      refine Qk J (Qk J (Qk J (Qk J (Qk J (Qk J (Qk J (Qk J (Zc 1 J ⟨⟨rfl,rfl,rfl,rfl,rfl,rfl,rfl,(H0 J (by rw [Ek9 (by omega)])),trivial⟩,?_⟩))))))));exact ⟨hC,hU,hB1,hH,by omega,hO,hBA⟩
    rintro e9 w61 ⟨hs9,hC,hU,hB1,hH,hz61,hO,hBA⟩;refine H9 _ hs9 ?_;clear hs9 e9
    try have hlBA:=hBA.lt
    refine A4 J (fun g6=>?_) (fun g6=>?_)
    ·have g6:=Eo4 g6;have hOA:=hO.offBlk hBA (by decide);refine A7 (B2 (Qd (Z 2 J (C9 J (B1 T7 J J (by omega) (by omega)) (Pb (cs':=(P4 (a.take (jn - 1)++0::List.replicate (a.length - jn) 0))) sz3 J J hBA J J J (by rw [hcl,Ep0];omega) (by rw [El4,show ((jn:Int) - 1).toNat=jn - 1 by omega];exact Cg9 a jn g6.1 (by omega) 0) ?_)))));intro w8 hs8 hx8 hBA;have hC:=hC.step hx8 (by simp;omega);have hU:=hU.q hx8 (by intro b hb hFb;have:=hF _ hFb;simp at hb;omega);have hB1:=hB1.q hx8 (by simp;omega);have hH:=hH.q hx8 (by simp;omega);have hO:=(by exact hO.keep hx8 ‹_›);have hrep:(0::List.replicate (a.length - jn) 0)=List.replicate (a.length - (jn - 1)) 0:=by rw [show a.length - (jn - 1)=(a.length - jn)+1 by omega,Es2]
     refine Qc (Qb (Z 1 J (Su J J (by omega) (Zc 1 J ⟨jn - 1,⟨rfl,rfl,rfl,rfl,rfl,rfl,(G3 J (by omega)),trivial⟩,?_,?_⟩))));refine ⟨hC,hU,hB1,hH,by omega,hO,by rw [← hrep];exact hBA,?_,by omega⟩;rw [hval,htk g6.1,show a.length - (jn - 1)=(a.length - jn)+1 by omega,Nat.pow_succ,Nat.mul_comm (E.bytes.length ^ _) E.bytes.length,← Nat.mul_assoc,Nat.add_mul _ 1 E.bytes.length,Nat.one_mul,El8,g6.2];show jn - 1<jn;omega
    ·have g6:=Et4 g6
     refine Xb (Qa (Qd (Zc 2 J (A4 J (fun g7=>?_) (fun g7=>?_)))))
     ·try simp at g7
      have hj0:jn=0:=by omega
      subst hj0;have hend:Ad5 E.bytes.length a+1=E.bytes.length ^ n:=by rw [hval,Er7,Nat.sub_zero,hal];show (0+1)*_=_;rw [El4,Nat.one_mul]
      have hfin:Bq3 t E n (Ad5 E.bytes.length a+1)=(Ah4 E.bytes n).filter (posF t):=by unfold Bq3;rw [Em3 (by rw [Bf8,hend];exact Ek7 _)]
      rw [hfin] at hO ⊢;refine Bc2 (Ay7 J (Aq0 ?_));exact Qd (Zc 2 J (A6 (B4 J J ⟨hC,A2,c2,rfl,hO.lower hwz⟩)))
     ·try simp at g7
      have hj0:0<jn:=by omega
      have hdj:=had _ (H5 a 0 (jn - 1) (by omega));have hnb:a.getD (jn - 1) 0+1<E.bytes.length:=by have:¬ a.getD (jn - 1) 0+1=E.bytes.length:=fun h=>g6 ⟨hj0,h⟩;omega
      have hOA:=hO.offBlk hBA (by decide);refine A7 (Qb (Z 2 J (C9 J (B1 T7 J J (by omega) (by omega)) (Lc o3 J (by rw [hBA.cell,El4,show ((jn:Int) - 1).toNat=jn - 1 by omega];exact hlst hj0) ?_))));refine C9 J ((Bq2 J J (by omega)).to (J5 (show ((a.getD (jn - 1) 0:Nat):Int)+1=((a.getD (jn - 1) 0+1:Nat):Int) by omega))) ?_;refine C9 J (B1 T7 J J (by omega) (by omega)) (Pb (cs':=(P4 (a.take (jn - 1)++(a.getD (jn - 1) 0+1)::List.replicate (a.length - jn) 0))) sz3 J J hBA J J J (by rw [hcl,Ep0];omega) (by rw [El4,show ((jn:Int) - 1).toNat=jn - 1 by omega];exact Cg9 a jn hj0 (by omega) _) ?_);intro w9 hs9 hx9 hBA;have hC:=hC.step hx9 (by simp;omega);have hU:=hU.q hx9 (by intro b hb hFb;have:=hF _ hFb;simp at hb;omega);have hB1:=hB1.q hx9 (by simp;omega);have hH:=hH.q hx9 (by simp;omega);have hO:=(by exact hO.keep hx9 ‹_›);have hnl:(a.take (jn - 1)++(a.getD (jn - 1) 0+1)::List.replicate (a.length - jn) 0).length=n:=by rw [Ek1,Er4,Em9,En1];omega
      have hnv:Ad5 E.bytes.length (a.take (jn - 1)++(a.getD (jn - 1) 0+1)::List.replicate (a.length - jn) 0)=Ad5 E.bytes.length a+1:=by
       rw [Bx4,Em9,En1,Ad5,En1,Bh3,hval,htk hj0,Nat.pow_succ,Nat.mul_comm (E.bytes.length ^ _) E.bytes.length,← Nat.mul_assoc,Eu6,← Nat.add_mul,El8]
      have hnd:∀ d∈(a.take (jn - 1)++(a.getD (jn - 1) 0+1)::List.replicate (a.length - jn) 0),d<E.bytes.length:=fun d hd=>by
       rcases En3.1 hd with h|h
       ·exact had d (List.mem_of_mem_take h)
       ·rcases En6.1 h with h|h
        ·omega
        ·rw [(List.mem_replicate.1 h).2];exact hB0
      refine Qc ⟨(a.take (jn - 1)++(a.getD (jn - 1) 0+1)::List.replicate (a.length - jn) 0,A2,c2),⟨rfl,rfl,rfl,rfl,(Q2 J (by rw [hnv])),rfl,trivial⟩,?_,?_⟩;refine ⟨hC,hU,hB1,hH,by omega,by rw [hnv];exact hO,hBA,hnl,hnd⟩;show E.bytes.length ^ n - Ad5 E.bytes.length _<E.bytes.length ^ n - Ad5 E.bytes.length a;rw [hnv];omega
  ·try simp at g2
   all_goals (exfalso;first|omega|(rw [g2] at hB0;simp at hB0))
 ·try simp at g1
  all_goals (exfalso;omega)
end
theorem Cs0 (F2:Nat→Prop) (p:Nat) (E:DE) (l:List St) (n most:Int) (hbad:n<0∨1000<n∨most<0∨10000<most) (w:World) (hD:IsDfa F2 w p E l):
  Calls P 30 #[.pointer (some ⟨p,0,none⟩),.int .i64 n,.int .i64 most] w (Ret fun u w'=>u= .tuple #[.slice none 0 0,.int .i64 1]∧Chg [] w w'):=by
 have hC:=A8 [] w;have hg:=hD.good;have hps:=hg.pos;refine D4 Tryz.func30 J J (Qd (Zc 2 J (Qa (Qd (Z 1 J (Ca fb15 J (Ac6 F2 p E l _ hD) ?_))))));rintro _ w1 ⟨rfl,hx1⟩;have hC:=hC.s0 hx1
 refine Z 2 J (C0 (d:=13) J (fun h1=>?_) (fun h1=>?_))
 ·try simp at h1
  all_goals first|omega|(rw [h1] at hps;simp at hps)
 ·try simp at h1
  refine Qu J (Z 1 J (Qu J (Z 3 J (C0 (d:=17) J (fun h2=>?_) (fun h2=>?_)))))
  ·try simp at h2
   exact Qk J (Qk J (Z 2 J (Qk J (Qk J (Z 2 J (Qk J (Qk J (Zc 1 J (E3 J (Qd (Zc 2 J (A6 (J7 J J J ⟨rfl,hC⟩)))))))))))))
  ·try simp at h2
   refine Qu J (Z 1 J (Qu J (Z 3 J (C0 (d:=21) J (fun h3=>?_) (fun h3=>?_)))))
   ·try simp at h3
    exact Qk J (Qk J (Z 2 J (Qk J (Qk J (Zc 1 J (E3 J (Qd (Zc 2 J (A6 (J7 J J J ⟨rfl,hC⟩))))))))))
   ·try simp at h3
    refine Qu J (Z 1 J (Qu J (Z 3 J (C0 (d:=25) J (fun h4=>?_) (fun h4=>?_)))))
    ·try simp at h4
     exact Qk J (Qk J (Zc 1 J (E3 J (Qd (Zc 2 J (A6 (J7 J J J ⟨rfl,hC⟩)))))))
    ·try simp at h4
     refine Qu J (Z 1 J (Qu J (Zc 2 J (A4 J (fun h5=>?_) (fun h5=>?_)))))
     ·try simp at h5
      exact Qd (Zc 2 J (A6 (J7 J J J ⟨rfl,hC⟩)))
     ·try simp at h5
      all_goals omega
theorem Bh2 (F2:Nat→Prop) (p:Nat) (E:DE) (l:List St) (n:Int) (hbad:n<0∨1000<n) (w:World) (hD:IsDfa F2 w p E l):
  Calls P 32 #[.pointer (some ⟨p,0,none⟩),.int .i64 n] w (Ret fun u w'=>u= .int .i64 0∧Chg [] w w'):=by
 have hC:=A8 [] w;have hg:=hD.good;have hps:=hg.pos;refine D4 Tryz.func32 J J (Qd (Zc 1 J (Qa (Qd (Z 1 J (Ca fb15 J (Ac6 F2 p E l _ hD) ?_))))));rintro _ w1 ⟨rfl,hx1⟩;have hC:=hC.s0 hx1
 refine Z 2 J (C0 (d:=8) J (fun h1=>?_) (fun h1=>?_))
 ·try simp at h1
  all_goals first|omega|(rw [h1] at hps;simp at hps)
 ·try simp at h1
  refine Qu J (Z 1 J (Qu J (Z 3 J (C0 (d:=12) J (fun h2=>?_) (fun h2=>?_)))))
  ·try simp at h2
   exact Qk J (Qk J (Zc 1 J (E3 J (Qd (Zc 1 J (A6 (B4 J J ⟨rfl,hC⟩)))))))
  ·try simp at h2
   refine Qu J (Z 1 J (Qu J (Zc 2 J (A4 J (fun h3=>?_) (fun h3=>?_)))))
   ·try simp at h3
    exact Qd (Zc 1 J (A6 (B4 J J ⟨rfl,hC⟩)))
   ·try simp at h3
    all_goals omega
theorem Cr8 (E:DE) (l:List St) (k:Nat):Y9 E l (k+1)=Y9 E l k++Bf3 E l k 0 []:=by
 unfold Y9;rw [Eo6,List.flatMap_append,Eo5,List.flatMap_nil,Eo8]
theorem strs_one (W:List (List Nat)):(Bf7 W).all Value.oneCell'=true:=by
 induction W with
 |nil=>rfl
 |cons x r ih=>simp only [Bf7,Em8,List.all_cons,Ek2] at*;exact ⟨rfl,ih⟩
theorem pow5 {B n:Nat} (hB:B≤5) (hn:n≤4):B ^ n≤625:=En2 (Nat.pow_le_pow_left hB n) (Nat.pow_le_pow_right (by decide) hn)
theorem Dq2 {E:DE} {l:List St} (hB:E.bytes.length≤5) {n:Nat} (hn:n≤4) (st:Nat) (w:List Nat):(Bf3 E l n st w).length≤625:=by
 rw [Bo9,En7];exact En2 (Es6 _ _) (by rw [Bf8];exact pow5 hB hn)
theorem list31_c (s:ByteArray) (m longest most:Int) (w:World) (hL:Laid w):Calls P 7 #[.string s,.int .i64 m,.int .i64 longest,.int .i64 most] w (Ret fun u w'=>u= .bool true∧Chg [] w w'):=by
 have hC:=A8 [] w
 try have hz4:=hL.sz
 refine D4 Tryz.func7 J J (Qd (Zc 1 J (Qd (Z 2 J (Ca fb28 J (Eg5 s m _ hL) ?_)))));rintro v9 w1 ⟨hx1,hb⟩;have hz1:=hx1.size;have hC:=hC.s0 hx1;have hL:=hL.u hx1
 by_cases hc9:∃ cs:List Value,v9= .tuple #[.pointer none,.agg cs.toArray,.int .i64 1]∧cs.all Value.oneCell'=true∧cs.length=5
 ·obtain ⟨cs,rfl,hone,hlen⟩:=hc9
  obtain ⟨a0,a1,a2,a3,a4,rfl⟩:∃ a0 a1 a2 a3 a4,cs=[a0,a1,a2,a3,a4]:=by
   match cs,hlen with
   |[a0,a1,a2,a3,a4],_=>exact ⟨a0,a1,a2,a3,a4,rfl⟩
  refine Z 4 J (B5 J (B9 Dr6 J) ?_);intro b2 w2 hb2 hs2 hx2 hB2;refine Z 1 J (Pb (cs':=[a0,a1,a2,a3,a4]) Dj6 J J hB2 J J hone J J ?_);intro w3 hs3 hx3 hB3;have hC:=hC.step (hx2.j hx3) (by simp<;>omega);have hL:=hL.q (hx2.j hx3) (by simp<;>omega)
  refine Zc 1 J (Qa (Qd (Z 3 J (C0 (d:=29) J (fun g0=>?_) (fun g0=>?_)))))
  ·try simp at g0
   refine Qk J (Qk J (Qk J (Qk J (Zc 1 J (E3 J (Qd (Ca fb29 J (Ay9 _ hL) ?_)))))));rintro _ w4 ⟨rfl,hx4⟩;have hC:=hC.s0 hx4;exact Zc 1 J (A6 (B4 J J ⟨rfl,hC⟩))
  ·try simp at g0
   all_goals simp at g0
 ·rcases hb with hb|⟨t,k,q,l,pd,As,cS,pf,pl,bt,bf,rfl,hBt⟩;exact absurd hb hc9;obtain ⟨hG8,hpl,hA0,hl,hD,hU⟩:=hBt;have hq:q.S.length≤10:=by rw [hA0.len];exact hpl
  have hg:=hD.good;have hlaw:=fun L hL=>ways_law hg (dfa_law (by omega) hl hg) (show SameA t (Ce4 k q 100).k (Ce4 k q 100).q from hA0) L hL
  have hEby:=hg.by_;have hps:=hg.pos;unfold Br1;generalize Ce4 k q 100=E at*;refine Z 4 J (B5 J (B9 Dr6 J) ?_);intro b5 w5 hb5 hs5 hx5 hB5;refine Z 1 J (Pe Dj6 J ‹_› J J ?_);intro w6 hs6 hx6 hB5;have hC:=hC.step (hx5.j hx6) (by simp<;>omega);have hL:=hL.q (hx5.j hx6) (by simp<;>omega);have hD:=hD.q (hx5.j hx6) (by simp<;>omega);have hU:=hU.q (hx5.j hx6) (by simp<;>omega)
  refine Zc 1 J (Qa (Qd (Z 3 J (C0 (d:=29) J (fun g0=>?_) (fun g0=>?_)))))
  ·try simp at g0
   all_goals simp at g0
  ·try simp at g0
   refine Qu J (Z 1 J (Qu J (Ca fb22 J (Ce7 _ pd E l _ (fun x (hx:x<w1.heap.size)=>by omega) hD) ?_)));rintro _ w7 ⟨hx7,A9,c9,rfl,hO9⟩;have hz7:=hx7.size;have hC:=hC.s0 hx7;have hL:=hL.u hx7;have hD:=hD.u hx7;have hU:=hU.u hx7;have hB5:=hB5.u hx7
   refine Qu J (Ln Tryz.underlying44 J (Qu J (Zc 2 J (A4 J (fun g1=>?_) (fun g1=>?_)))))
   ·try simp at g1
    refine Qd (Ca fb29 J (Ay9 _ hL) ?_);rintro _ w8 ⟨rfl,hx8⟩;have hC:=hC.s0 hx8;exact Zc 1 J (A6 (B4 J J ⟨rfl,hC⟩))
   ·try simp at g1
    have hB5l:E.bytes.length≤5:=by omega
    have hall:∀ n,(Ah4 E.bytes n).filter (posF t)=Bf3 E l n 0 []:=fun n=>(Eh5 hlaw hEby n).symm
    by_cases hbad:min longest 3<0∨1000<min longest 3∨most<0∨10000<most
    ·refine A7 (Qd (Z 1 J (C9 J (T4 J J) (Zc 1 J (Qd (Z 3 J (Ca fb30 J (Cs0 _ pd E l (min longest 3) most hbad _ hD) ?_)))))));rintro _ w9 ⟨rfl,hx9⟩;have hz9:=hx9.size;have hC:=hC.s0 hx9;have hL:=hL.u hx9;have hD:=hD.u hx9;have hU:=hU.u hx9;have hB5:=hB5.u hx9
     refine Zc 5 J (Qa (I0 (fun e9 wr=>Sub [(13,.slice none 0 0),(14,.int .i64 1),(54,.bool true)] e9∧Chg [] w wr∧Laid wr∧IsDfa (fun x=>x<w1.heap.size) wr pd E l∧RAu (fun x=>x<w1.heap.size) wr t As pf pl bt bf∧Blk wr b5 [.slice As (O3 t).length cS,.int .i64 (N5 t),.slice (some ⟨pf,0,none⟩) (B8 t) (B8 t),.slice (some ⟨pl,0,none⟩) (B8 t) (B8 t),.slice (some ⟨bt,0,none⟩) (B8 t) (B8 t)] 27∧w1.heap.size≤wr.heap.size) ?_ ?_))
     ·refine Qb (Z 3 J (C0 (d:=47) J (fun k1=>?_) (fun k1=>?_)))
      ·try simp at k1
       refine Qk J (Qk J (Z 2 J (Qk J (Qk J (Zc 1 J ⟨(sb J),?_⟩)))));exact ⟨hC,hL,hD,hU,hB5,by omega⟩
      ·try simp at k1
       refine Qu J (Z 1 J (Qu J (Z 3 J (C0 (d:=51) J (fun k2=>?_) (fun k2=>?_)))))
       ·try simp at k2
        refine Qk J (Qk J (Zc 1 J ⟨(sb J),?_⟩));exact ⟨hC,hL,hD,hU,hB5,by omega⟩
       ·try simp at k2
        refine Qu J (Z 1 J (Qu J (Zc 2 J ⟨⟨rfl,rfl,(H0 J (by rw [cmpB_gtr];omega)),trivial⟩,?_⟩)));exact ⟨hC,hL,hD,hU,hB5,by omega⟩
     rintro e9 w20 ⟨hs9,hC,hL,hD,hU,hB5,hz20⟩;refine H9 _ hs9 ?_;clear hs9 e9
     refine E3 (rfl) (Qd (Z 1 J (Ln Tryz.underlying49 J (Z 2 J (C0 (d:=58) J (fun y1=>?_) (fun y1=>?_))))))
     ·try simp at y1
      refine Qu J (Z 1 J (Qu J (Z 3 J (C0 (d:=62) J (fun y2=>?_) (fun y2=>?_)))))
      ·try simp at y2
       refine Qu J (Ca fb29 J (Ay9 _ hL) ?_);rintro _ w10 ⟨rfl,hx10⟩;have hC:=hC.s0 hx10;exact Zc 2 J (A6 (B4 J J ⟨rfl,hC⟩))
      ·try simp at y2
       all_goals simp at y2
     ·try simp at y1
      all_goals simp at y1
    ·obtain ⟨n,hn⟩:∃ n:Nat,min longest 3=(n:Int):=⟨(min longest 3).toNat,by omega⟩;obtain ⟨mst,rfl⟩:∃ n:Nat,most=(n:Int):=⟨most.toNat,by omega⟩;have hn3:n≤3:=by omega
     have hm4:mst≤10000:=by omega
     refine A7 (Qd (Z 1 J (C9 J ((T4 J J).to (J5 hn)) (Zc 1 J (Qd (Z 3 J (Ca fb30 J (wlist_c _ pd E l n mst (by omega) hm4 _ (fun x (hx:x<w1.heap.size)=>by omega) hD) ?_)))))));rintro _ w11 ⟨hx11,Ao,co,rfl,hOl⟩;have hz11:=hx11.size;have hC:=hC.s0 hx11;have hL:=hL.u hx11;have hD:=hD.u hx11;have hU:=hU.u hx11;have hB5:=hB5.u hx11;have hW:=lsU_eq hg mst (n+1);have hWl:(lsU E l mst (n+1)).length=min mst (Y9 E l (n+1)).length:=by rw [hW,Er4]
     have hWg:∀ i,i<(lsU E l mst (n+1)).length→(lsU E l mst (n+1)).getD i []=(Y9 E l (n+1)).getD i []:=fun i hi=>by
      rw [hW,Ej8,List.getElem?_take_of_lt (by omega),← Ej8]
     generalize lsU E l mst (n+1)=W at*;have hH:=hOl.rd (F:=fun x=>x<(World.heap w11).size) (fun _ _ h=>h);generalize hzWd:(World.heap w11).size=hzW at*
     refine Zc 5 J (Qa (I0 (fun e9 wr=>Sub [(3,.int .i64 (mst:Nat)),(9,.pointer (some ⟨pd,0,none⟩)),(10,.pointer (some ⟨b5,0,none⟩)),(12,.int .i64 (n:Nat)),(13,.slice Ao W.length co),(14,.int .i64 0),(54,.bool false)] e9∧Chg [] w wr∧Laid wr∧IsDfa (fun x=>x<w1.heap.size) wr pd E l∧RAu (fun x=>x<w1.heap.size) wr t As pf pl bt bf∧Blk wr b5 [.slice As (O3 t).length cS,.int .i64 (N5 t),.slice (some ⟨pf,0,none⟩) (B8 t) (B8 t),.slice (some ⟨pl,0,none⟩) (B8 t) (B8 t),.slice (some ⟨bt,0,none⟩) (B8 t) (B8 t)] 27∧w1.heap.size≤wr.heap.size∧Rd (fun x=>x<hzW) wr 1 Ao W.length (Bf7 W)∧hzW≤wr.heap.size) ?_ ?_))
     ·refine Qb (Z 3 J (C0 (d:=47) J (fun k1=>?_) (fun k1=>?_)))
      ·try simp at k1
       all_goals (exfalso;omega)
      ·try simp at k1
       refine Qu J (Z 1 J (Qu J (Z 3 J (C0 (d:=51) J (fun k2=>?_) (fun k2=>?_)))))
       ·try simp at k2
        all_goals (exfalso;omega)
       ·try simp at k2
        refine Qu J (Z 1 J (Qu J (Zc 2 J ⟨⟨rfl,rfl,rfl,rfl,rfl,rfl,(H0 J (by rw [Bool.eq_false_iff,Ne,cmpB_gtr];omega)),trivial⟩,?_⟩)));exact ⟨hC,hL,hD,hU,hB5,by omega,hH,by omega⟩
     rintro e9 w30 ⟨hs9,hC,hL,hD,hU,hB5,hz30,hH,hz31⟩;refine H9 _ hs9 ?_;clear hs9 e9
     refine E4 (rfl) (A7 (Qd (Zc 1 J (Qa (Qd (Zc 1 J (B2 (D9 (σ:=Nat × Option Addr × Nat) (fun (i,A,c)=>[(3,.int .i64 (mst:Nat)),(9,.pointer (some ⟨pd,0,none⟩)),(10,.pointer (some ⟨b5,0,none⟩)),(12,.int .i64 (n:Nat)),(13,.slice Ao W.length co),(14,.int .i64 0),(15,.slice A (Y9 E l i).length c),(16,.int .i64 (i:Nat))]) (fun (i,A,c) wr=>Chg [] w wr∧Laid wr∧IsDfa (fun x=>x<w1.heap.size) wr pd E l∧RAu (fun x=>x<w1.heap.size) wr t As pf pl bt bf∧Blk wr b5 [.slice As (O3 t).length cS,.int .i64 (N5 t),.slice (some ⟨pf,0,none⟩) (B8 t) (B8 t),.slice (some ⟨pl,0,none⟩) (B8 t) (B8 t),.slice (some ⟨bt,0,none⟩) (B8 t) (B8 t)] 27∧w1.heap.size≤wr.heap.size∧Rd (fun x=>x<hzW) wr 1 Ao W.length (Bf7 W)∧hzW≤wr.heap.size∧Own wr hzW 9 1 A (Y9 E l i).length c (Bf7 (Y9 E l i))∧(Y9 E l i).length≤1000*i∧i≤n+1) (fun (i,A,c) wr=>n+1 - i) (0,none,0) (sb J) ?_ ?_))))))))
     ·exact ⟨hC,hL,hD,hU,hB5,by omega,hH,by omega,Own.nil _ _ _ _,Ek5 _,Ek5 _⟩
     rintro ⟨i,A,c⟩ w40 ⟨hC,hL,hD,hU,hB5,hz40,hH,hz41,hO,hlen,hi⟩
     try have hlB5:=hB5.lt
     refine Qa (Qd (Zc 3 J (A4 J (fun g3=>?_) (fun g3=>?_))))
     ·try simp at g3
      have hsm:=Dq2 (l:=l) hB5l (n:=i) (by omega) 0 [];have hcl:=Dh1 hg i 0 [] hps;refine A7 (Qa (B2 (Qd (Z 1 J (La Cr4 J ‹_› J J ?_)))));refine Z 1 J (Ca fb31 J (all31_c t k q E l pd i hG8 hpl (by omega) (by have:=pow5 hB5l (show i≤4 by omega);omega) As cS pf pl bt bf _ _ (fun x (hx:x<w1.heap.size)=>by omega) hD hU) ?_);rintro _ w12 ⟨hx12,Ax,cx,rfl,hOx⟩;have hz12:=hx12.size;have hD:=hD.u hx12;rw [hall i] at hOx ⊢;refine Zc 1 J (Qa (Qd (Z 2 J (Ca fb32 J (Dr9 _ pd E l i (by omega) _ (fun x (hx:x<w1.heap.size)=>by omega) hD) ?_))));rintro _ w13 ⟨rfl,hx13⟩;have hz13:=hx13.size;have hC:=hC.s0 (hx12.s0 hx13);have hL:=hL.u (hx12.s0 hx13);have hD:=hD.u hx13;have hU:=hU.u (hx12.s0 hx13);have hB5:=hB5.u (hx12.s0 hx13);have hH:=hH.u (hx12.s0 hx13);have hO:=hO.u (hx12.s0 hx13);have hOx:=hOx.u hx13;refine Z 1 J (Ln Tryz.underlying49 J (C9 J ((Dj0 J J J).to (I7 (show _=false from by rw [Bool.eq_false_iff,Ne,cmpB_neq,hcl];omega))) ?_));have hOb:=hO.blk;have hone:=strs_one (Bf3 E l i 0 []);have hns:=Cr8 E l i;refine Qc (E4 J (A7 (Qb (Z 2 J (G1 J el49 J J hO ((hOx.rd (F:=fun _=>True) (fun _ _ _=>trivial))) ‹_› (by omega) (by omega) ?_)))));intro A' c' w14 hO14 hx14 hA';have hz14:=hx14.size;have hC:=hC.step hx14 (by intro x h;have:=hOb x h;exact .inr (by omega));have hL:=hL.q hx14 (by intro x h;have:=hOb x h;first|omega|exact .inr (by omega));have hD:=hD.q hx14 (by intro x h;have:=hOb x h;first|omega|exact .inr (by omega));have hU:=hU.q hx14 (by intro x h;have:=hOb x h;first|omega|exact .inr (by omega));have hB5:=hB5.q hx14 (by intro h;have:=hOb _ h;omega);have hH:=hH.q hx14 (by intro x h;have:=hOb x h;first|omega|exact .inr (by omega))
      replace hO:=hO14
      refine Zc 1 J (Qb (Z 1 J (Ad J J (by omega) (Zc 1 J ⟨(i+1,A',c'),⟨rfl,rfl,rfl,rfl,rfl,rfl,(Q2 J (by rw [hns,Ek1])),rfl,trivial⟩,?_,?_⟩))));refine ⟨hC,hL,hD,hU,hB5,by omega,hH,by omega,?_,by rw [hns,Ek1];omega,by omega⟩;rw [hns,Ek1];unfold Bf7;rw [En9];exact hO;show n+1 - (i+1)<n+1 - i;omega
     ·try simp at g3
      have hii:i=n+1:=by omega
      rw [hii] at hO ⊢;have hR2:=hO.rd (F:=fun x=>x<(World.heap w40).size) (fun _ _ h=>h)
      try have hlR2:=hR2.lt
      refine Xb (Qd (Z 2 J (Ln Tryz.underlying49 J (C9 J ((T4 J J).to (J5 (show _=((W.length:Nat):Int) by omega))) ?_))))
      refine Zc 1 J (Qa (Qd (Z 3 J (C0 (d:=89) J (fun z0=>?_) (fun z0=>?_)))))
      ·try simp at z0
       all_goals simp at z0
      ·try simp at z0
       refine Qu J (Z 1 J (Qu J (Ln Tryz.underlying49 J (Qu J (Z 1 J (Qu J (Zc 2 J (A4 J (fun z1=>?_) (fun z1=>?_)))))))))
       ·try simp at z1
        all_goals (exfalso;omega)
       ·try simp at z1
        refine A7 (Qa (Qd (Zc 1 J (B2 (D9 (σ:=Nat) (fun j=>[(9,.pointer (some ⟨pd,0,none⟩)),(13,.slice Ao W.length co),(15,.slice A (Y9 E l (n+1)).length c),(18,.int .i64 (W.length:Nat)),(19,.int .i64 (j:Nat))]) (fun j wr=>Chg [] w wr∧Laid wr∧IsDfa (fun x=>x<w1.heap.size) wr pd E l∧RAu (fun x=>x<w1.heap.size) wr t As pf pl bt bf∧Blk wr b5 [.slice As (O3 t).length cS,.int .i64 (N5 t),.slice (some ⟨pf,0,none⟩) (B8 t) (B8 t),.slice (some ⟨pl,0,none⟩) (B8 t) (B8 t),.slice (some ⟨bt,0,none⟩) (B8 t) (B8 t)] 27∧w1.heap.size≤wr.heap.size∧Rd (fun x=>x<hzW) wr 1 Ao W.length (Bf7 W)∧Rd (fun x=>x<w40.heap.size) wr 1 A (Y9 E l (n+1)).length (Bf7 (Y9 E l (n+1)))∧j≤W.length) (fun j wr=>W.length - j) 0 (sb J) ?_ ?_)))))
        ·exact ⟨hC,hL,hD,hU,hB5,by omega,hH,hR2,Ek5 _⟩
        rintro j w50 ⟨hC,hL,hD,hU,hB5,hz50,hH,hR2,hj⟩
        try have hlB5:=hB5.lt
        try have hlR2:=hR2.lt
        refine Qa (Qd (Zc 3 J (A4 J (fun j1=>?_) (fun j1=>?_))))
        ·try simp at j1
         have hjl:j<W.length:=by omega
         have hgj:=hWg j hjl;refine A7 (Qa (B2 (Qa (C7 (S:=[]) 8 [(0,0),(0,1),(0,2),(0,3),(0,4),(0,5),(0,6),(0,7),(2,8)] mo (by kernel_rfl) ?_))));intro w15 hx15 hh15;have hC:=hC.s0 hx15;have hL:=hL.u hx15;have hD:=hD.u hx15;have hU:=hU.u hx15;have hB5:=hB5.u hx15;have hH:=hH.u hx15;have hR2:=hR2.u hx15;obtain ⟨gA,oA,rfl,_,hltA,hcellA⟩:=hH.at_ (by omega);obtain ⟨gC,oC,hAC,_,hltC,hcellC⟩:=hR2.at_ (by omega);subst hAC;refine Z 2 J (D5 J (B1 sl49 J J (by omega) (by omega)) (D5 J (D7 o9 J (hH.one (Da5 W j hjl)).2 (by simp;done)) ?_));refine Z 2 J (D5 J (B1 sl49 J J (by omega) (by omega)) (D5 J (D7 o9 J (hR2.one (Da5 (Y9 E l (n+1)) j (by omega))).2 (by simp;done)) ?_));refine C9 J ((Does.neS J J).to (I7 (show _=false from by rw [hgj,By0];simp))) ?_;refine Qc (E4 J (A7 (Qb (Z 1 J (Ad J J (by omega) (Zc 1 J ⟨j+1,sb J,?_,?_⟩))))));exact ⟨hC,hL,hD,hU,hB5,by omega,hH,hR2,hjl⟩;show W.length - (j+1)<W.length - j;omega
        ·try simp at j1
         refine Xb (Qd (Z 1 J (Ca fb32 J (Bh2 _ pd E l (-1) (by omega) _ hD) ?_)));rintro _ w16 ⟨rfl,hx16⟩;have hC:=hC.s0 hx16;have hL:=hL.u hx16;have hD:=hD.u hx16
         refine Z 2 J (C0 (d:=112) J (fun x1=>?_) (fun x1=>?_))
         ·try simp at x1
          refine Qu J (Z 1 J (Qu J (Ca fb32 J (Bh2 _ pd E l 1001 (by omega) _ hD) ?_)));rintro _ w17 ⟨rfl,hx17⟩;have hC:=hC.s0 hx17;have hL:=hL.u hx17
          refine Qu J (Z 3 J (C0 (d:=117) J (fun x2=>?_) (fun x2=>?_)))
          ·try simp at x2
           refine Qu J (Ca fb29 J (Ay9 _ hL) ?_);rintro _ w18 ⟨rfl,hx18⟩;have hC:=hC.s0 hx18;exact Zc 2 J (A6 (B4 J J ⟨rfl,hC⟩))
          ·try simp at x2
           all_goals simp at x2
         ·try simp at x1
          all_goals simp at x1
end Go.Clt
