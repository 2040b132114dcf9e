import Derived.Test.YtckdapbopihofaaGreatDoorMn7
/- On any word: whether it is meant, as the ways tell; a dead state means no word that goes on (DfaMeans). Conditions: none beyond the statement's own. A part of that proof: Ref43, Ref44, LawW, LawE, LawG. Conditions: none beyond the statement's own. By an AI agent; no person has read it. -/
set_option linter.unusedVariables false
set_option linter.unusedSimpArgs false
set_option maxRecDepth 8000
set_option maxHeartbeats 4000000
namespace Go.Clt
open Go Go.RowKit Go.Proofs
structure RAu (F:Nat→Prop) (w:World) (t:R8) (As:Option Addr) (pf pl bt:Nat) (bf:List Nat):Prop where
 rs:Rd F w 4 As (P4 t).length (F6 (P4 t))
 ff:F pf
 first:Blk w pf (I7 (J2 t 0 (B9 t) false)) 3
 fl:F pl
 last:Blk w pl (I7 (J2 t 0 (B9 t) true)) 3
 ft:F bt
 tab:Blk w bt (X1 (B9 t) bf) 24
 rows:RowsB F w (B9 t) bf (U7 t)
theorem RAu.q {F:Nat→Prop} {w w':World} {t:R8} {As:Option Addr} {pf pl bt:Nat} {bf:List Nat} {S:List Nat} (h:RAu F w t As pf pl bt bf) (c:Chg S w w') (hS:∀ b∈S,¬ F b):RAu F w' t As pf pl bt bf:=
 ⟨h.rs.q c hS,h.ff,h.first.q c (fun hm=>hS _ hm h.ff),h.fl,h.last.q c (fun hm=>hS _ hm h.fl),h.ft,h.tab.q c (fun hm=>hS _ hm h.ft),h.rows.q c hS⟩
theorem RAu.u {F:Nat→Prop} {w w':World} {t:R8} {As:Option Addr} {pf pl bt:Nat} {bf:List Nat} (h:RAu F w t As pf pl bt bf) (c:Chg [] w w'):RAu F w' t As pf pl bt bf:=h.q c (by simp)
def Dm9 (t:R8) (As:Option Addr) (cS pf pl bt:Nat):List Value:=[.slice As (P4 t).length cS,.int .i64 (O2 t),.slice (some ⟨pf,0,none⟩) (B9 t) (B9 t),.slice (some ⟨pl,0,none⟩) (B9 t) (B9 t),.slice (some ⟨bt,0,none⟩) (B9 t) (B9 t)]
theorem RAuto.open {F:Nat→Prop} {w:World} {t:R8} {cs:List Value} (h:RAuto F w t cs):∃ As cS pf pl bt bf,cs=Dm9 t As cS pf pl bt∧RAu F w t As pf pl bt bf:=by
 obtain ⟨As,cS,pf,pl,bt,bs,h1,h2,h3,h4,h5,h6,h7,h8,h9⟩:=h
 exact ⟨As,cS,pf,pl,bt,bs,h1,h2,h3,h4,h5,h6,h7,h8,h9⟩
def Do3 (t:R8) (L:List Nat) (i p:Nat):Bool:=((P4 t).getD p 0).testBit (L.getD i 0)
def inF (t:R8) (f:BagF) (p:Nat) (q:Nat):Int:=(List.range q).foldl (fun a x=>Y7 a (Ab8 (f x) (((U7 t).getD x []).getD p 0))) 0
theorem By4 (t:R8) (f:BagF) (p q:Nat):inF t f p (q+1)=Y7 (inF t f p q) (Ab8 (f q) (((U7 t).getD q []).getD p 0)):=by
 unfold inF
 rw [Ek6,Ej6,Eo8,Em8]
theorem inF_ok (t:R8) (f:BagF) (p:Nat):∀ q,0≤inF t f p q∧inF t f p q≤9223372036854775807
 |0=>by unfold inF;rw [List.range_zero,Em8];omega
 |q+1=>by rw [By4];exact M7 _ _
def Ac6 (t:R8) (L:List Nat):Nat→BagF
 |0=>fun p=>if Do3 t L 0 p then (J2 t 0 (B9 t) false).getD p 0 else 0
 |i+1=>fun p=>if Do3 t L (i+1) p then inF t (Ac6 t L i) p (B9 t) else 0
def Cp4 (t:R8) (L:List Nat) (i p q:Nat):Int:=if i=0 then (J2 t 0 (B9 t) false).getD p 0 else inF t (Ac6 t L (i - 1)) p q
theorem Cx3 {t:R8} {L:List Nat} {i p:Nat} (h:Do3 t L i p=true):Ac6 t L i p=Cp4 t L i p (B9 t):=by
 unfold Cp4
 cases i with
 |zero=>rw [Ac6];dsimp only;rw [Eg7 h,Eg7 rfl]
 |succ i=>rw [Ac6];dsimp only;rw [Eg7 h,Eg6 (by omega)];rfl
theorem Cx2 {t:R8} {L:List Nat} {i p:Nat} (h:Do3 t L i p=false):Ac6 t L i p=0:=by
 cases i with
 |zero=>rw [Ac6];dsimp only;rw [h];rfl
 |succ i=>rw [Ac6];dsimp only;rw [h];rfl
theorem Do9 {t:R8} {L:List Nat} {i p q:Nat} (hg:G8 t):0≤Cp4 t L i p q∧Cp4 t L i p q≤9223372036854775807:=by
 unfold Cp4
 split
 ·exact (W4 t hg 0 (B9 t) false).2.get p
 ·exact inF_ok t _ p q
theorem Dp0 {t:R8} {L:List Nat} {i p:Nat} (hg:G8 t):0≤Ac6 t L i p∧Ac6 t L i p≤9223372036854775807:=by
 cases h:Do3 t L i p
 ·rw [Cx2 h];omega
 ·rw [Cx3 h];exact Do9 hg
def Bo2 (f:BagF) (p:Nat) (y:Int):BagF:=fun x=>if x<p then f x else if x=p then y else 0
theorem Dv4 (f:BagF) (n:Nat):Y9 (Bo2 f 0 0) n=List.replicate n 0:=by
 unfold Y9
 rw [List.eq_replicate_iff]
 refine ⟨by simp,fun x hx=>?_⟩
 obtain ⟨y,_,rfl⟩:=Em2.1 hx
 unfold Bo2
 rw [Eg6 (by omega)]
 split<;>rfl
theorem Da8 (f:BagF) (p n:Nat) (y z:Int) (hp:p<n):(I7 (Y9 (Bo2 f p y) n)).take p++[.int .i64 z]++(I7 (Y9 (Bo2 f p y) n)).drop (p+1)=I7 (Y9 (Bo2 f p z) n):=by
 rw [X6 _ _ _ (by rw [G1,O4];exact hp)]
 apply Ei6
 intro j
 unfold I7 Y9
 simp only [Ej4,Ei7,Em4,Em6,Bo2]
 by_cases hj:p=j
 ·subst hj;simp [hp,Bo2]
 ·rw [Eg6 hj]
  by_cases h2:j<n
  ·simp [h2,Ne.symm hj,Bo2]
  ·simp [h2]
theorem Ci0 {f:BagF} {p:Nat} {y:Int} (n:Nat) (h:y=f p):Y9 (Bo2 f p y) n=Y9 (Bo2 f (p+1) 0) n:=by
 unfold Y9
 apply Eo9
 intro x hx
 unfold Bo2
 by_cases h1:x<p
 ·rw [Eg7 h1,Eg7 (by omega)]
 ·by_cases h2:x=p
  ·rw [Eg6 h1,Eg7 h2,Eg7 (by omega),h2];exact h
  ·rw [Eg6 h1,Eg6 h2,Eg6 (by omega)];split<;>rfl
theorem midV_end (f:BagF) (n:Nat):Y9 (Bo2 f n 0) n=Y9 f n:=by
 unfold Y9
 apply Eo9
 intro x hx
 unfold Bo2
 rw [Eg7 (Ei9.1 hx)]
def vecG (t:R8) (L:List Nat):List BagF:=(List.range L.length).map (Ac6 t L)
theorem Bu9 {t:R8} {L:List Nat} {i:Nat} (h:i<L.length):(vecG t L).getD i Q5=Ac6 t L i:=by
 unfold vecG
 rw [Eg8,Ei7,Ej0 h];rfl
theorem rvec_c (t:R8) (hg:G8 t) (hn:B9 t≤1000) (s:ByteArray) (hs:s.size≤1000) (As:Option Addr) (cS pf pl bt:Nat) (bf:List Nat) (F:Nat→Prop) (w:World) (hF:∀ x,F x→x<w.heap.size) (hU:RAu F w t As pf pl bt bf):Calls P 49 #[.agg (Dm9 t As cS pf pl bt).toArray,.string s] w (Ret fun u w'=>Chg [] w w'∧∃ A c bs,u= .slice A s.size c∧Own w' w.heap.size 24 1 A s.size c (Ay7 (B9 t) bs)∧bs.length=s.size∧GR w' w.heap.size bs (vecG t (B5 s)) (B9 t)):=by
 have hC:=A8 [] w
 have hsl:=E6 s
 have hlt:=P7 s
 have hSl:=Ak9 t hg
 have hel:=W4 t hg 0 (B9 t) false
 unfold Dm9
 rw [hSl]
 generalize hn':B9 t=n at*
 refine D5 Tryz.func49 J J (Qd (B6 J (E2 J J) ?_))
 intro b1 w1 hb1 hs1 hx1 hB1
 have hC:=hC.s0 hx1
 have hU:=hU.u hx1
 refine Zc 1 J (Qd (Zc 1 J (Qa (Qd (Zc 1 J (B2 (D9 (σ:=Nat × Option Addr × Nat × List Nat) (fun (i,A,c,bs)=>[(1,.string s),(2,.pointer (some ⟨b1,0,none⟩)),(5,.slice A i c),(6,.int .i64 (i:Nat))]) (fun (i,A,c,bs) wr=>Chg [] w wr∧RAu F wr t As pf pl bt bf∧Blk wr b1 [.slice As n cS,.int .i64 (O2 t),.slice (some ⟨pf,0,none⟩) n n,.slice (some ⟨pl,0,none⟩) n n,.slice (some ⟨bt,0,none⟩) n n] 27∧Own wr (b1+1) 24 1 A i c (Ay7 n bs)∧GR wr (b1+1) bs (vecG t (B5 s)) n∧bs.length=i∧i≤s.size) (fun (i,A,c,bs) wr=>s.size - i) (0,none,0,[]) ⟨rfl,rfl,rfl,rfl,trivial⟩ ?_ ?_)))))))
 ·exact ⟨hC,hU,hB1,Own.nil _ _ _ _,fun i hi=>absurd hi (by simp),rfl,Eh6 _⟩
 rintro ⟨i,A,c,bs⟩ w20 ⟨hC,hU,hB1,hO,hG,hbl,hi⟩
 try have hlB1:=hB1.lt
 refine Qa (Qd (Z 2 J (C9 J (F4 Tryz.underlying9 J) (Zc 1 J (A4 J (fun h1=>?_) (fun h1=>?_))))))
 ·try simp at h1
  have hil:i<s.size:=by omega
  have hbS0:∀ x∈bs,x<w20.heap.size:=fun x hx=>by obtain ⟨_,cs',hb⟩:=hG.mem hx;exact hb.lt
  refine A7 (Qa (B2 (Qd (Fa Dz0 J (Lb o23 J ‹_› (by rfl) ?_)))))
  refine Ln Tryz.underlying23 J (B6 J (N3 Dl4 zr3 J (cs:=I7 (List.replicate n 0)) (by omega) (by omega) (by show (madeCells #[_] (((n:Nat):Int).toNat*1)).toList=_;rw [Eh4,Ek7,Q9];simp [I7])) ?_)
  intro b2 w2 hb2 hs2 hx2 hBv
  have hC:=hC.s0 hx2
  have hU:=hU.u hx2
  have hB1:=hB1.u hx2
  have hO:=hO.u hx2
  have hG:=hG.u hx2
  have hbS:∀ x∈bs,x<b2:=fun x hx=>by have:=hbS0 x hx;omega
  refine Zc 1 J (Qa (Qd (Zc 1 J (B2 (D9 (σ:=Nat) (fun p=>[(1,.string s),(2,.pointer (some ⟨b1,0,none⟩)),(5,.slice A i c),(6,.int .i64 (i:Nat)),(7,.slice (some ⟨b2,0,none⟩) n n),(8,.int .i64 (p:Nat))]) (fun p wr=>Chg [] w wr∧RAu F wr t As pf pl bt bf∧Blk wr b1 [.slice As n cS,.int .i64 (O2 t),.slice (some ⟨pf,0,none⟩) n n,.slice (some ⟨pl,0,none⟩) n n,.slice (some ⟨bt,0,none⟩) n n] 27∧Own wr (b1+1) 24 1 A i c (Ay7 n bs)∧GR wr (b1+1) bs (vecG t (B5 s)) n∧Blk wr b2 (I7 (Y9 (Bo2 (Ac6 t (B5 s) i) p 0) n)) 3∧p≤n) (fun p wr=>n - p) 0 ⟨rfl,rfl,rfl,rfl,rfl,rfl,trivial⟩ ?_ ?_)))))
  ·exact ⟨hC,hU,hB1,hO,hG,by rw [Dv4];exact hBv,Eh6 _⟩
  rintro p w40 ⟨hC,hU,hB1,hO,hG,hBv,hp⟩
  try have hlB1:=hB1.lt
  refine Qa (Qd (Z 2 J (Ln Tryz.underlying24 J (Zc 1 J (A4 J (fun h2=>?_) (fun h2=>?_))))))
  ·try simp at h2
   have hpn:p<n:=by omega
   have hbS2:∀ x∈bs,x∉[b2]:=fun x hx=>by have:=hbS x hx;simp;omega
   have hOB:=hO.offBlk hBv (by decide)
   obtain ⟨u8,hu,hu2⟩:=I8 s i hil
   have hby:=hlt _ (I4 (B5 s) 0 i (by omega))
   refine A7 (Qa (B2 (Qa (Qa (C8 (S:=[]) 9 [(0,0),(0,1),(0,2),(0,3),(0,4),(0,5),(0,6),(0,7),(0,8),(2,9),(2,10)] mo (by kernel_rfl) ?_)))))
   intro w3 hx3 hh3
   have hC:=hC.s0 hx3
   have hU:=hU.u hx3
   have hB1:=hB1.u hx3
   have hO:=hO.u hx3
   have hG:=hG.u hx3
   have hBv:=hBv.u hx3
   obtain ⟨g,off,rfl,hFg,hltc,hcell⟩:=hU.rs.at_ (by rw [hSl];omega)
   refine Fa Dz0 J (D6 J (B4 o23 J ‹_› (by simp;done) (by rfl)) ?_)
   refine Z 1 J (D6 J (C3 Ap6 J J (by omega) (by omega)) (D6 J (J4 (vs:=C4 ((P4 t).getD p 0)) J1 J ⟨by have:=hU.rs;omega,fun j v hj=>by rw [Ej1];exact hcell (p*4+j) v (by have hj4:j<4:=(Ei5.1 hj).1;rw [O3 (P4 t) p j (by omega) hj4];exact hj)⟩ (by simp;done) J) ?_))
   refine Z 2 J (D6 J (Does.to (E9 Tryz.underlying9 J J (by omega) (by exact hu)) (J5 (show ((u8.toNat:Nat):Int)=(((B5 s).getD i 0:Nat):Int) by rw [hu2]))) ?_)
   refine D6 J (H2 kn5 Tryz.underlying3 J (by exact I2 (by omega))) ?_
   refine Ca fb52 J (Ds4 ((P4 t).getD p 0) ((B5 s).getD i 0) hby _) ?_
   rintro _ w4 ⟨rfl,hx4⟩
   have hC:=hC.s0 hx4
   have hU:=hU.u hx4
   have hB1:=hB1.u hx4
   have hO:=hO.u hx4
   have hG:=hG.u hx4
   have hBv:=hBv.u hx4
   refine Zc 1 J (A4 J (fun h3=>?_) (fun h3=>?_))
   ·try simp at h3
    refine Xb (Qb (Z 1 J (Ad J J (by omega) (Zc 1 J ⟨p+1,⟨rfl,rfl,rfl,rfl,rfl,rfl,trivial⟩,?_,?_⟩))))
    exact ⟨hC,hU,hB1,hO,hG,by rw [← Ci0 n (Cx2 (by simpa [Do3] using h3)).symm];exact hBv,hpn⟩
    show n - (p+1)<n - p
    omega
   ·try simp at h3
    have h3':Do3 t (B5 s) i p=true:=by simpa [Do3] using h3
    refine A7 (H9 (fun e9 wr=>Sub [(1,.string s),(2,.pointer (some ⟨b1,0,none⟩)),(5,.slice A i c),(6,.int .i64 (i:Nat)),(7,.slice (some ⟨b2,0,none⟩) n n),(8,.int .i64 (p:Nat))] e9∧Chg [] w wr∧RAu F wr t (some ⟨g,off,none⟩) pf pl bt bf∧Blk wr b1 [.slice (some ⟨g,off,none⟩) n cS,.int .i64 (O2 t),.slice (some ⟨pf,0,none⟩) n n,.slice (some ⟨pl,0,none⟩) n n,.slice (some ⟨bt,0,none⟩) n n] 27∧Own wr (b1+1) 24 1 A i c (Ay7 n bs)∧GR wr (b1+1) bs (vecG t (B5 s)) n∧Blk wr b2 (I7 (Y9 (Bo2 (Ac6 t (B5 s) i) p (Cp4 t (B5 s) i p 0)) n)) 3) ?_ ?_)
    ·refine Qd (Zc 2 J (A4 J (fun g1=>?_) (fun g1=>?_)))
     ·try simp at g1
      refine Qb (Z 2 J (Fa fl27_2 J (Lb o24 J ‹_› (by rfl) ?_)))
      refine Z 1 J (C9 J (B1 V3 J J (by omega) (by omega)) (Lc o3 J (by rw [hU.first.cell,Ei3,hn'];exact K1 _ p (by rw [hel.1];exact hpn)) ?_))
      refine C9 J (B1 V3 J J (by omega) (by omega)) (Pb (cs':=(I7 (Y9 (Bo2 (Ac6 t (B5 s) i) p ((J2 t 0 n false).getD p 0)) n))) sz3 J J hBv J J J (by rw [G1,O4,El9];omega) (by rw [Eh4,Ei3];exact Da8 _ _ _ _ _ hpn) ?_)
      intro w5 hs5 hx5 hBv
      have hC:=hC.step hx5 (by simp;omega)
      have hU:=hU.q hx5 (by intro b hb hFb;have:=hF _ hFb;simp at hb;omega)
      have hB1:=hB1.q hx5 (by simp;omega)
      have hO:=(by exact hO.keep hx5 ‹_›)
      have hG:=hG.q hx5 ‹_›
      refine Qc ⟨⟨rfl,rfl,rfl,rfl,rfl,rfl,trivial⟩,?_⟩
      exact ⟨hC,hU,hB1,hO,hG,by unfold Cp4;rw [Eg7 (by omega),hn'];exact hBv⟩
     ·try simp at g1
      refine A7 ⟨⟨rfl,rfl,rfl,rfl,rfl,rfl,trivial⟩,?_⟩
      exact ⟨hC,hU,hB1,hO,hG,by unfold Cp4;rw [Eg6 (by omega)];exact hBv⟩
    rintro e9 w50 ⟨hs9,hC,hU,hB1,hO,hG,hBv⟩
    refine H8 _ hs9 ?_
    clear hs9 e9
    refine Qd (Zc 1 J (B2 (D9 (σ:=Nat) (fun q=>[(1,.string s),(2,.pointer (some ⟨b1,0,none⟩)),(5,.slice A i c),(6,.int .i64 (i:Nat)),(7,.slice (some ⟨b2,0,none⟩) n n),(8,.int .i64 (p:Nat)),(9,.int .i64 (q:Nat))]) (fun q wr=>Chg [] w wr∧RAu F wr t (some ⟨g,off,none⟩) pf pl bt bf∧Blk wr b1 [.slice (some ⟨g,off,none⟩) n cS,.int .i64 (O2 t),.slice (some ⟨pf,0,none⟩) n n,.slice (some ⟨pl,0,none⟩) n n,.slice (some ⟨bt,0,none⟩) n n] 27∧Own wr (b1+1) 24 1 A i c (Ay7 n bs)∧GR wr (b1+1) bs (vecG t (B5 s)) n∧Blk wr b2 (I7 (Y9 (Bo2 (Ac6 t (B5 s) i) p (Cp4 t (B5 s) i p q)) n)) 3∧q≤n) (fun q wr=>n - q) 0 ⟨rfl,rfl,rfl,rfl,rfl,rfl,rfl,trivial⟩ ?_ ?_)))
    ·exact ⟨hC,hU,hB1,hO,hG,hBv,Eh6 _⟩
    rintro q w60 ⟨hC,hU,hB1,hO,hG,hBv,hq⟩
    refine Qa (H9 (fun e9 wr=>Sub [(1,.string s),(2,.pointer (some ⟨b1,0,none⟩)),(5,.slice A i c),(6,.int .i64 (i:Nat)),(7,.slice (some ⟨b2,0,none⟩) n n),(8,.int .i64 (p:Nat)),(9,.int .i64 (q:Nat)),(54,.bool (decide (q<n∧0<i)))] e9∧Chg [] w wr∧RAu F wr t (some ⟨g,off,none⟩) pf pl bt bf∧Blk wr b1 [.slice (some ⟨g,off,none⟩) n cS,.int .i64 (O2 t),.slice (some ⟨pf,0,none⟩) n n,.slice (some ⟨pl,0,none⟩) n n,.slice (some ⟨bt,0,none⟩) n n] 27∧Own wr (b1+1) 24 1 A i c (Ay7 n bs)∧GR wr (b1+1) bs (vecG t (B5 s)) n∧Blk wr b2 (I7 (Y9 (Bo2 (Ac6 t (B5 s) i) p (Cp4 t (B5 s) i p q)) n)) 3) ?_ ?_)
    ·refine Qb (Z 2 J (Ln Tryz.underlying24 J (Z 2 J (C0 (d:=51) J (fun g2=>?_) (fun g2=>?_)))))
     ·try simp at g2
      refine Qu J (Z 1 J (Qu J (Zc 2 J ⟨⟨rfl,rfl,rfl,rfl,rfl,rfl,rfl,(G7 J (by rw [Ei0,cmpB_gtr,Ei1];omega)),trivial⟩,?_⟩)))
      exact ⟨hC,hU,hB1,hO,hG,hBv⟩
     ·try simp at g2
      refine Qk J (Qk J (Zc 1 J ⟨⟨rfl,rfl,rfl,rfl,rfl,rfl,rfl,(G7 J (by rw [Eh9 (by omega)])),trivial⟩,?_⟩))
      exact ⟨hC,hU,hB1,hO,hG,hBv⟩
    rintro e9 w70 ⟨hs9,hC,hU,hB1,hO,hG,hBv⟩
    refine H8 _ hs9 ?_
    clear hs9 e9
    refine A4 J (fun q3=>?_) (fun q3=>?_)
    ·have q3:=El4 q3
     have hqn:q<n:=q3.1
     obtain ⟨j,rfl⟩:∃ j,i=j+1:=⟨i - 1,by omega⟩
     have hOB:=hO.offBlk hBv (by decide)
     have hvj:∀ x,0≤Ac6 t (B5 s) j x∧Ac6 t (B5 s) j x≤9223372036854775807:=fun x=>Dp0 hg
     have hmid:∀ (f:BagF) (y:Int),Bo2 f p y p=y:=fun f y=>by unfold Bo2;rw [Eg6 (by omega),Eg7 J]
     have hy:=Do9 (t:=t) (L:=B5 s) (i:=j+1) (p:=p) (q:=q) hg
     refine A7 (Qa (B2 (C8 (S:=[]) 24 [(0,0),(0,1),(0,2),(0,3),(0,4),(0,5),(0,6),(0,7),(0,8),(0,9),(0,10),(0,11),(0,12),(0,13),(0,14),(0,15),(0,16),(0,17),(0,18),(0,19),(0,20),(0,21),(1,22),(1,23),(2,24),(2,25)] mo (by kernel_rfl) ?_)))
     intro w6 hx6 hh6
     have hz6:=hx6.size
     have hC:=hC.s0 hx6
     have hU:=hU.u hx6
     have hB1:=hB1.u hx6
     have hO:=hO.u hx6
     have hG:=hG.u hx6
     have hBv:=hBv.u hx6
     have hCS6:=A8 ([]) w6
     obtain ⟨hne,hBq,hlq,hrq⟩:=hU.rows.row q (by omega)
     obtain ⟨hjl,hBj⟩:=hG j (by omega)
     rw [Bu9 (by omega)] at hBj
     have hmq:=hrq.get p
     refine Z 4 J (D6 J (B1 V3 J J (by omega) (by omega)) (D6 J (E0 o3 J (by rw [hBv.cell,Ei3,Eh4,K1 _ p (by rw [O4];exact hpn),Au5 _ _ _ hpn,hmid]) (by simp;done)) ?_))
     obtain ⟨g9,o9,rfl,_,hlt9,hcell9⟩:=(hO.rd (F:=fun _=>True) (fun _ _ _=>trivial)).at_ (by omega)
     refine Z 2 J (Su J J (by omega) (D6 J (B1 sl25 J J (by omega) (by omega)) (D6 J (E0 o24 J (by rw [show ((((j+1:Nat):Int) - 1).toNat)=j by omega];exact ((hO.rd (F:=fun _=>True) (fun _ _ _=>trivial)).one (Cf4 n bs j (by omega))).2) (by simp;done)) ?_)))
     refine Z 1 J (D6 J (B1 V3 J J (by omega) (by omega)) (D6 J (E0 o3 J (by rw [hBj.cell,Ei3,Eh4,K1 _ q (by rw [O4];exact hqn),Au5 _ _ _ hqn]) (by simp;done)) ?_))
     refine Fa fl27_4 J (D6 J (B4 o25 J ‹_› (by simp;done) (by rfl)) ?_)
     refine Z 1 J (D6 J (B1 sl25 J J (by omega) (by omega)) (D6 J (E0 o24 J (by rw [hU.tab.cell,Ei3];exact Bg4 _ bf q (by rw [hU.rows.lb];omega)) (by simp;done)) ?_))
     refine Z 1 J (D6 J (B1 V3 J J (by omega) (by omega)) (D6 J (E0 o3 J (by rw [hBq.cell,Ei3];exact K1 _ p (by omega)) (by simp;done)) ?_))
     refine C5 J (C2 fb50 J) (Cy3 (Ac6 t (B5 s) j q) (((U7 t).getD q []).getD p 0) (hvj q).2 hmq.2 _) ?_
     rintro _ _ ⟨rfl,rfl⟩
     refine ⟨hCS6,?_⟩
     refine C5 J (C2 Co8 J) (Aa3 (Cp4 t (B5 s) (j+1) p q) (Ab8 (Ac6 t (B5 s) j q) (((U7 t).getD q []).getD p 0)) hy.2 (U9 _ _).2 _) ?_
     rintro _ _ ⟨rfl,rfl⟩
     refine ⟨hCS6,?_⟩
     refine C9 J (B1 V3 J J (by omega) (by omega)) (Pb (cs':=(I7 (Y9 (Bo2 (Ac6 t (B5 s) (j+1)) p (Cp4 t (B5 s) (j+1) p (q+1))) n))) sz3 J J hBv J J J (by rw [G1,O4,El9];omega) (by rw [Eh4,Ei3];unfold Cp4;rw [Eg6 (by omega),Eg6 (by omega),By4];exact Da8 _ _ _ _ _ hpn) ?_)
     intro w9 hs9 hx9 hBv
     have hC:=hC.step hx9 (by simp;omega)
     have hU:=hU.q hx9 (by intro b hb hFb;have:=hF _ hFb;simp at hb;omega)
     have hB1:=hB1.q hx9 (by simp;omega)
     have hO:=(by exact hO.keep hx9 ‹_›)
     have hG:=hG.q hx9 ‹_›
     refine Qc (Qb (Z 1 J (Ad J J (by omega) (Zc 1 J ⟨q+1,⟨rfl,rfl,rfl,rfl,rfl,rfl,rfl,trivial⟩,?_,?_⟩))))
     exact ⟨hC,hU,hB1,hO,hG,hBv,hqn⟩
     show n - (q+1)<n - q
     omega
    ·have q3:=Ep9 q3
     have hfin:Cp4 t (B5 s) i p q=Ac6 t (B5 s) i p:=by
      rw [Cx3 h3',hn']
      unfold Cp4
      by_cases h0:i=0
      ·rw [Eg7 h0,Eg7 h0]
      ·rw [Eg6 h0,Eg6 h0,show q=n by omega]
     rw [hfin,Ci0 n J] at hBv
     refine Xb (Qb (Z 1 J (Ad J J (by omega) (Zc 1 J ⟨p+1,⟨rfl,rfl,rfl,rfl,rfl,rfl,trivial⟩,?_,?_⟩))))
     exact ⟨hC,hU,hB1,hO,hG,hBv,hpn⟩
     show n - (p+1)<n - p
     omega
  ·try simp at h2
   have hpp:p=n:=by omega
   subst hpp
   rw [midV_end] at hBv
   have hGA:∀ x∈bs,x∉F9 A:=fun x hx hm=>by obtain ⟨_,cs',hb⟩:=hG.mem hx;exact hO.offBlk hb (by decide) x hm (by simp)
   have hOb:=hO.blk
   have hvA:b2∉F9 A:=fun h=>hO.offBlk hBv (by decide) b2 h (by simp)
   refine Xb (Qb (Z 2 J (B6 J (B7 sl25 Tryz.underlying25 zr24 J J J (by rfl)) ?_)))
   intro b10 w10 hb10 hs10 hx10 hB10
   have hC:=hC.s0 hx10
   have hU:=hU.u hx10
   have hB1:=hB1.u hx10
   have hO:=hO.u hx10
   have hG:=hG.u hx10
   have hBv:=hBv.u hx10
   refine H0 J el25 J J hO (Blk.rd (F:=fun _=>True) ‹_› J trivial) (by rfl) (by omega) (by omega) ?_
   intro A' c' w11 hO11 hx11 hA'
   have hC:=hC.step hx11 (by intro x h;have:=hOb x h;exact .inr (by omega))
   have hU:=hU.q hx11 (by intro x hx hf;have:=hOb x hx;have:=hF x hf;omega)
   have hB1:=hB1.q hx11 (by intro h;have:=hOb _ h;omega)
   have hG:=hG.q hx11 ‹_›
   have hBv:=hBv.q hx11 ‹_›
   replace hO:=hO11
   refine Zc 1 J (Qb (Z 1 J (Ad J J (by omega) (Zc 1 J ⟨(i+1,A',c',bs++[b2]),⟨rfl,rfl,rfl,rfl,trivial⟩,?_,?_⟩))))
   refine ⟨hC,hU,hB1,?_,hG.snoc (by omega) (by rw [hbl,Bu9 (by omega)];exact hBv),by simp [hbl],hil⟩
   unfold Ay7
   rw [Em0]
   exact hO
   show s.size - (i+1)<s.size - i
   omega
 ·try simp at h1
  have hkk:i=s.size:=by omega
  subst hkk
  exact Xb (Qd (Zc 2 J (A6 (B3 J J ⟨hC,A,c,bs,rfl,hO.lower (by omega),hbl,fun i hi=>⟨by have:=(hG i hi).1;omega,(hG i hi).2⟩⟩))))
def Do2 (t:R8) (f:BagF) (p:Nat):Int:=(List.range p).foldl (fun a x=>Y7 a (Ab8 (f x) ((J2 t 0 (B9 t) true).getD x 0))) 0
theorem Bh7 (t:R8) (f:BagF) (p:Nat):Do2 t f (p+1)=Y7 (Do2 t f p) (Ab8 (f p) ((J2 t 0 (B9 t) true).getD p 0)):=by
 unfold Do2
 rw [Ek6,Ej6,Eo8,Em8]
theorem outF_ok (t:R8) (f:BagF):∀ p,0≤Do2 t f p∧Do2 t f p≤9223372036854775807
 |0=>by unfold Do2;rw [List.range_zero,Em8];omega
 |p+1=>by rw [Bh7];exact M7 _ _
def Dg2 (t:R8) (L:List Nat):Int:=if L.length=0 then O2 t else Do2 t (Ac6 t L (L.length - 1)) (B9 t)
theorem Dr4 (t:R8) (hg:G8 t) (hn:B9 t≤1000) (s:ByteArray) (hs:s.size≤1000) (As:Option Addr) (cS pf pl bt:Nat) (bf:List Nat) (F:Nat→Prop) (w:World) (hF:∀ x,F x→x<w.heap.size) (hU:RAu F w t As pf pl bt bf):Calls P 21 #[.agg (Dm9 t As cS pf pl bt).toArray,.string s] w (Ret fun u w'=>u= .int .i64 (Dg2 t (B5 s))∧Chg [] w w'):=by
 have hC:=A8 [] w
 have hsl:=E6 s
 have hSl:=Ak9 t hg
 have hel:=W4 t hg 0 (B9 t) true
 have hW:Dg2 t (B5 s)=if s.size=0 then O2 t else Do2 t (Ac6 t (B5 s) (s.size - 1)) (B9 t):=by unfold Dg2;rw [hsl]
 rw [hW]
 unfold Dm9
 refine D5 Tryz.func21 J J (Qd (B6 J (E2 J J) ?_))
 intro b1 w1 hb1 hs1 hx1 hB1
 have hC:=hC.s0 hx1
 have hU:=hU.u hx1
 refine Zc 1 J (Qa (Qd (Z 1 J (C9 J (Df6 J J) (Qc (A4 J (fun h0=>?_) (fun h0=>?_)))))))
 ·have h0:s.size=0:=by rw [Cp8] at h0;have:=El4 h0;rw [← hsl,this];rfl
  refine Qd (Fa fl27_1 J (Lb o3 J ‹_› (by rfl) ?_))
  exact Zc 1 J (A6 (B3 J J ⟨by rw [Eg7 h0],hC⟩))
 ·have h0:¬ s.size=0:=by rw [Cp8] at h0;intro hz;refine absurd ?_ (Ep9 h0);show B5 s=[];exact En7 (by omega)
  rw [Eg6 h0]
  refine A7 (Qd (La ag27 J ‹_› J J ?_))
  refine Z 1 J (Ca fb49 J (rvec_c t hg hn s hs As cS pf pl bt bf F _ (fun z hz=>by have:=hF z hz;omega) hU) ?_)
  rintro v9 w2 ⟨hx2,A,c,bs,rfl,hO,hbl,hG⟩
  have hC:=hC.s0 hx2
  have hU:=hU.u hx2
  have hB1:=hB1.u hx2
  obtain ⟨hjl,hBj⟩:=hG (s.size - 1) (by omega)
  rw [Bu9 (by omega)] at hBj
  have hrd:=hO.rd (F:=fun x=>x<w2.heap.size) (fun _ _ h=>h)
  refine Zc 1 J (Qd (Zc 1 J (Qa (Qd (Zc 1 J (B2 (D9 (σ:=Nat) (fun p=>[(1,.string s),(2,.pointer (some ⟨b1,0,none⟩)),(5,.slice A s.size c),(6,.int .i64 (Do2 t (Ac6 t (B5 s) (s.size - 1)) p)),(7,.int .i64 (p:Nat))]) (fun p wr=>Chg [] w wr∧RAu F wr t As pf pl bt bf∧Blk wr b1 [.slice As (P4 t).length cS,.int .i64 (O2 t),.slice (some ⟨pf,0,none⟩) (B9 t) (B9 t),.slice (some ⟨pl,0,none⟩) (B9 t) (B9 t),.slice (some ⟨bt,0,none⟩) (B9 t) (B9 t)] 27∧Rd (fun x=>x<w2.heap.size) wr 1 A s.size (Ay7 (B9 t) bs)∧Blk wr (bs.getD (s.size - 1) 0) (I7 (Y9 (Ac6 t (B5 s) (s.size - 1)) (B9 t))) 3∧p≤B9 t) (fun p wr=>B9 t - p) 0 (sb J) ?_ ?_)))))))
  ·exact ⟨hC,hU,hB1,hrd,hBj,Eh6 _⟩
  rintro p w40 ⟨hC,hU,hB1,hrd,hBj,hp⟩
  refine Qa (Qd (Z 1 J (Fa Dz0 J (Lb o23 J ‹_› (by rfl) ?_))))
  refine Ln Tryz.underlying23 J (Zc 1 J (A4 J (fun h1=>?_) (fun h1=>?_)))
  ·try simp at h1
   have hpn:p<B9 t:=by omega
   have hy:=outF_ok t (Ac6 t (B5 s) (s.size - 1)) p
   have hv:=Dp0 (t:=t) (L:=B5 s) (i:=s.size - 1) (p:=p) hg
   have hl:=hel.2.get p
   refine A7 (Qa (B2 (C8 (S:=[]) 16 [(0,0),(0,1),(0,2),(0,3),(0,4),(0,5),(0,6),(0,7),(0,8),(0,9),(0,10),(0,11),(0,12),(0,13),(0,14),(1,15),(2,16),(2,17)] mo (by kernel_rfl) ?_)))
   intro w3 hx3 hh3
   have hz3:=hx3.size
   have hC:=hC.s0 hx3
   have hU:=hU.u hx3
   have hB1:=hB1.u hx3
   have hrd:=hrd.u hx3
   have hBj:=hBj.u hx3
   have hCS3:=A8 ([]) w3
   obtain ⟨g9,o9,rfl,_,hlt9,hcell9⟩:=hrd.at_ (by omega)
   refine Z 3 J (D6 J (F4 Tryz.underlying9 J) (Su J J (by omega) (D6 J (B1 sl25 J J (by omega) (by omega)) (D6 J (E0 o24 J (by rw [show ((((s.size:Nat):Int) - 1).toNat)=s.size - 1 by omega];exact (hrd.one (Cf4 _ bs (s.size - 1) (by omega))).2) (by simp;done)) ?_))))
   refine Z 1 J (D6 J (B1 V3 J J (by omega) (by omega)) (D6 J (E0 o3 J (by rw [hBj.cell,Ei3,Eh4,K1 _ p (by rw [O4];exact hpn),Au5 _ _ _ hpn]) (by simp;done)) ?_))
   refine Fa fl27_3 J (D6 J (B4 o24 J ‹_› (by simp;done) (by rfl)) ?_)
   refine Z 1 J (D6 J (B1 V3 J J (by omega) (by omega)) (D6 J (E0 o3 J (by rw [hU.last.cell,Ei3];exact K1 _ p (by rw [hel.1];exact hpn)) (by simp;done)) ?_))
   refine C5 J (C2 fb50 J) (Cy3 (Ac6 t (B5 s) (s.size - 1) p) ((J2 t 0 (B9 t) true).getD p 0) hv.2 hl.2 _) ?_
   rintro _ _ ⟨rfl,rfl⟩
   refine ⟨hCS3,?_⟩
   refine Ca Co8 J (Aa3 (Do2 t (Ac6 t (B5 s) (s.size - 1)) p) (Ab8 (Ac6 t (B5 s) (s.size - 1) p) ((J2 t 0 (B9 t) true).getD p 0)) hy.2 (U9 _ _).2 _) ?_
   rintro _ _ ⟨rfl,rfl⟩
   refine Zc 1 J (Qb (Z 1 J (Ad J J (by omega) (Zc 1 J ⟨p+1,⟨rfl,rfl,rfl,(G2 J (by rw [Bh7])),rfl,trivial⟩,?_,?_⟩))))
   exact ⟨hC,hU,hB1,hrd,hBj,hpn⟩
   show B9 t - (p+1)<B9 t - p
   omega
  ·try simp at h1
   have hpp:p=B9 t:=by omega
   subst hpp
   exact Xb (Qd (Zc 2 J (A6 (B3 J J ⟨rfl,hC⟩))))
end Go.Clt
section
namespace Go.Clt
open Go Go.RowKit
theorem Cx1 (t:R8) {L M:List Nat}:∀ i,(∀ j,j≤i→L.getD j 0=M.getD j 0)→Ac6 t L i=Ac6 t M i
 |0,h=>by
  funext p
  rw [Ac6,Ac6]
  unfold Do3
  rw [h 0 (Eh8 _)]
 |i+1,h=>by
  funext p
  rw [Ac6,Ac6,Cx1 t i (fun j hj=>h j (by omega))]
  unfold Do3
  rw [h (i+1) (Eh8 _)]
theorem Dx7 (t:R8) (f:BagF) (p:Nat):∀ q,0<inF t f p q↔∃ x,x<q∧0<f x∧0<((U7 t).getD x []).getD p 0
 |0=>by unfold inF;simp
 |q+1=>by
  rw [By4,Ao3,Ao2,Dx7 t f p q]
  constructor
  ·rintro (⟨x,h1,h2⟩|h)
   ·exact ⟨x,by omega,h2⟩
   ·exact ⟨q,by omega,h⟩
  ·rintro ⟨x,h1,h2⟩
   by_cases hx:x<q
   ·exact .inl ⟨x,hx,h2⟩
   ·have:x=q:=by omega
    subst this
    exact .inr h2
theorem Cz4 (t:R8) (f:BagF):∀ q,0<Do2 t f q↔∃ x,x<q∧0<f x∧0<(J2 t 0 (B9 t) true).getD x 0
 |0=>by unfold Do2;simp
 |q+1=>by
  rw [Bh7,Ao3,Ao2,Cz4 t f q]
  constructor
  ·rintro (⟨x,h1,h2⟩|h)
   ·exact ⟨x,by omega,h2⟩
   ·exact ⟨q,by omega,h⟩
  ·rintro ⟨x,h1,h2⟩
   by_cases hx:x<q
   ·exact .inl ⟨x,hx,h2⟩
   ·have:x=q:=by omega
    subst this
    exact .inr h2
theorem Ce4 {t:R8} {E:DE} (h:SameA t E.k E.q):∀ L:List Nat,L≠[]→∀ p,p∈An7 E L↔p<B9 t∧0<Ac6 t L (L.length - 1) p:=by
 suffices H:∀ R:List Nat,R≠[]→∀ p,p∈An7 E R.reverse↔p<B9 t∧0<Ac6 t R.reverse (R.length - 1) p by
  intro L hne p
  have:=H L.reverse (by simpa using hne) p
  rwa [List.reverse_reverse,List.length_reverse] at this
 intro R
 induction R with
 |nil=>intro h;exact absurd rfl h
 |cons b r ih=>
  intro _ p
  rw [List.reverse_cons]
  have hlast:(r.reverse++[b]).getD r.length 0=b:=by
   rw [Eg8,Ej3 (by simp)];simp
  by_cases hr:r=[]
  ·subst hr
   show p∈W8 E.k E.q b↔_
   rw [Ee1,h.len,h.S]
   refine and_congr_right fun hp=>?_
   show _↔0<Ac6 t [b] 0 p
   rw [Ac6,h.kn.first p hp]
   dsimp only
   unfold Do3
   show (((P4 t).getD p 0).testBit b=true∧_)↔0<if ((P4 t).getD p 0).testBit b=true then _ else _
   by_cases hb:((P4 t).getD p 0).testBit b=true
   ·rw [Eg7 hb];exact ⟨fun h=>h.2,fun h=>⟨hb,h⟩⟩
   ·rw [Eg6 hb];exact iff_of_false (fun h=>hb h.1) (by omega)
  ·have hl:0<r.length:=List.length_pos_iff.2 hr
   rw [At1 E (by simpa using hr),next_mem,h.len,h.S]
   refine and_congr_right fun hp=>?_
   obtain ⟨j,hj⟩:∃ j,r.length=j+1:=⟨r.length - 1,by omega⟩
   show _↔0<Ac6 t (r.reverse++[b]) (r.length+1 - 1) p
   rw [Nat.add_sub_cancel,hj,Ac6]
   dsimp only
   unfold Do3
   rw [← hj,hlast]
   have hpre:Ac6 t (r.reverse++[b]) j=Ac6 t r.reverse j:=Cx1 t j fun m hm=>by
    rw [Eg8,Ej5 (by simp;omega),← Eg8]
   rw [hpre]
   have hal:∀ x,x∈An7 E r.reverse↔x<B9 t∧0<Ac6 t r.reverse j x:=fun x=>by
    rw [ih hr x,hj];exact Iff.rfl
   by_cases hb:((P4 t).getD p 0).testBit b=true
   ·rw [Eg7 hb,Dx7]
    constructor
    ·rintro ⟨_,x,h1,h2⟩
     obtain ⟨h3,h4⟩:=(hal x).1 h1
     exact ⟨x,h3,h4,(h.fol x p h3 hp).1 h2⟩
    ·rintro ⟨x,h3,h4,h5⟩
     exact ⟨hb,x,(hal x).2 ⟨h3,h4⟩,(h.fol x p h3 hp).2 h5⟩
   ·rw [Eg6 hb]
    exact iff_of_false (fun h=>hb h.1) (by omega)
theorem ways_law {t:R8} {E:DE} {l:List St} (hg:DGood E l) (hl:DLaw E l) (h:SameA t E.k E.q) (L:List Nat) (hL:∀ b∈L,b<256):(l.getD (Bn9 E l L) default).meant=decide (0<Dg2 t L):=by
 rw [Dv8 hg hl L hL]
 unfold Dg2
 by_cases h0:L.length=0
 ·rw [Eg7 h0,Eg7 h0,decide_eq_decide]
  exact h.kn.void
 ·rw [Eg6 h0,Eg6 h0,Ei0,Ei4,Cz4]
  unfold Cu5
  rw [El1]
  simp only [Eh1,Ei4]
  have hne:L≠[]:=fun he=>h0 (by rw [he];rfl)
  constructor
  ·rintro ⟨x,h1,h2,h3⟩
   obtain ⟨h4,h5⟩:=(Ce4 h L hne x).1 h1
   exact ⟨x,h4,h5,(h.kn.last x h4).1 h3⟩
  ·rintro ⟨x,h4,h5,h6⟩
   exact ⟨x,(Ce4 h L hne x).2 ⟨h4,h5⟩,by rw [h.len];exact h4,(h.kn.last x h4).2 h6⟩
end Go.Clt
end
section
namespace Go.Clt
open Go Go.RowKit
def Bd6 (l:List St):Nat→Nat→Prop
 |0,i=>(l.getD i default).meant=true
 |m+1,i=>∃ j,j∈(l.getD i default).next∧Bd6 l m j
theorem Az5 {l l':List St} (h:∀ j,sameSt (l.getD j default) (l'.getD j default)):∀ m i,Bd6 l m i→Bd6 l' m i
 |0,i,hg=>by rw [Bd6] at hg ⊢;rw [← (h i).2.2.2];exact hg
 |m+1,i,hg=>by
  rw [Bd6] at hg ⊢
  obtain ⟨j,h1,h2⟩:=hg
  exact ⟨j,by rw [← (h i).2.2.1];exact h1,Az5 h m j h2⟩
structure MkOk (l:List St):Prop where
 go:∀ i,i<l.length→(l.getD i default).dead=false→∃ m,m+Bl2 l≤l.length∧Bd6 l m i
 me:∀ i,i<l.length→(l.getD i default).meant=true→(l.getD i default).dead=false
 nv:∀ i,i<l.length→∀ v∈(l.getD i default).next,v<l.length
theorem mark1_ok {x:List St × Bool} {i:Nat} (h:MkOk x.1) (hi:i<x.1.length):MkOk (K0 x i).1:=by
 have hs:=Av7 x i
 have hl:=Bb8 x i
 have hs2:∀ j,sameSt (x.1.getD j default) ((K0 x i).1.getD j default):=fun j=>⟨(hs j).1.symm,(hs j).2.1.symm,(hs j).2.2.1.symm,(hs j).2.2.2.symm⟩
 by_cases hc:((x.1.getD i default).dead && Bp1 x.1 (x.1.getD i default))=true
 ·have e:(K0 x i).1=x.1.set i { x.1.getD i default with dead:=false }:=by unfold K0;rw [Eg7 hc]
  simp only [Eh1] at hc
  have hd:=Cl4 x.1 i hi hc.1
  rw [← e] at hd
  have hg:∀ j,(K0 x i).1.getD j default=if j=i then { x.1.getD i default with dead:=false } else x.1.getD j default:=fun j=>by rw [e];exact Ad5 _ _ _ _ _ hi
  refine ⟨fun j hj hjd=>?_,fun j hj hjm=>?_,fun j hj v hv=>?_⟩
  ·rw [hl] at hj ⊢
   by_cases hji:j=i
   ·subst hji
    have hu:=hc.2
    unfold Bp1 at hu
    rw [El1] at hu
    obtain ⟨v,hv,hvd⟩:=hu
    obtain ⟨m,h1,h2⟩:=h.go v (h.nv j hj v hv) (by simpa using hvd)
    refine ⟨m+1,by omega,Az5 hs2 _ _ ?_⟩
    rw [Bd6]
    exact ⟨v,hv,h2⟩
   ·rw [hg j,Eg6 hji] at hjd
    obtain ⟨m,h1,h2⟩:=h.go j hj hjd
    exact ⟨m,by omega,Az5 hs2 _ _ h2⟩
  ·rw [hl] at hj
   rw [hg j] at hjm ⊢
   by_cases hji:j=i
   ·rw [Eg7 hji]
   ·rw [Eg6 hji] at hjm ⊢
    exact h.me j hj hjm
  ·rw [hl] at hj ⊢
   rw [(hs j).2.2.1] at hv
   exact h.nv j hj v hv
 ·have e:(K0 x i).1=x.1:=by unfold K0;rw [Eg6 hc]
  rw [e]
  exact h
theorem Bx8 {l:List St} (h:MkOk l):∀ k,k≤l.length→MkOk (Ae2 l k).1
 |0,_=>h
 |k+1,hk=>by
  rw [Ab3]
  exact mark1_ok (Bx8 h k (by omega)) (by rw [Ab9];omega)
theorem Ci3 {l:List St}:∀ k,k≤l.length→(Ae2 l k).2=false→(Ae2 l k).1=l∧∀ i,i<k→(l.getD i default).dead=true→∀ v∈(l.getD i default).next,(l.getD v default).dead=true
 |0,_,_=>⟨rfl,fun i hi=>absurd hi (Nat.not_lt_zero _)⟩
 |k+1,hk,hf=>by
  rw [Ab3] at hf ⊢
  unfold K0 at hf ⊢
  split at hf
  ·cases hf
  ·rename_i hc
   rw [Eg6 hc]
   obtain ⟨h1,h2⟩:=Ci3 k (by omega) hf
   refine ⟨h1,fun i hi hd v hv=>?_⟩
   rw [h1] at hc
   by_cases hik:i<k
   ·exact h2 i hik hd v hv
   ·have:i=k:=by omega
    subst this
    refine Decidable.byContradiction fun hn=>hc ?_
    rw [hd,Em7]
    unfold Bp1
    rw [El1]
    exact ⟨v,hv,by simpa using hn⟩
theorem Db1:∀ (f:Nat) (l:List St),MkOk l→MkOk (Aq0 f l)
 |0,l,h=>h
 |f+1,l,h=>by
  unfold Aq0
  split
  ·exact Db1 f _ (Bx8 h _ (Eh8 _))
  ·exact Bx8 h _ (Eh8 _)
theorem Ci4:∀ (f:Nat) (l:List St),Bl2 l<f→∀ i,i<l.length→((Aq0 f l).getD i default).dead=true→∀ v∈((Aq0 f l).getD i default).next,((Aq0 f l).getD v default).dead=true
 |0,l,h=>by omega
 |f+1,l,h=>by
  unfold Aq0
  split
  ·rename_i hc
   have:=(Az3 l l.length (Eh8 _)).2 hc
   have hm:=Ci4 f (Ae2 l l.length).1 (by omega)
   rw [Ab9] at hm
   exact hm
  ·rename_i hc
   obtain ⟨h1,h2⟩:=Ci3 l.length (Eh8 _) (by simpa using hc)
   rw [h1]
   exact h2
theorem Cl5 (l:List St) (i:Nat) (h:i<l.length):((Aj9 l).getD i default).dead= !(l.getD i default).meant:=by
 simp [Aj9,Eg8,h]
theorem dead0_ok {l:List St} (hn:∀ i,i<l.length→∀ v∈(l.getD i default).next,v<l.length):MkOk (Aj9 l):=by
 refine ⟨fun i hi hd=>?_,fun i hi hm=>?_,fun i hi v hv=>?_⟩
 ·rw [Ac2] at hi
  rw [Cl5 l i hi] at hd
  have:=Cb5 (Aj9 l)
  refine ⟨0,by omega,?_⟩
  rw [Bd6,(Ag0 l i hi).2.2.2]
  simpa using hd
 ·rw [Ac2] at hi
  rw [Cl5 l i hi]
  rw [(Ag0 l i hi).2.2.2] at hm
  rw [hm];rfl
 ·rw [Ac2] at hi ⊢
  rw [(Ag0 l i hi).2.2.1] at hv
  exact hn i hi v hv
structure DeadLaw (l:List St):Prop where
 go:∀ i,i<l.length→(l.getD i default).dead=false→∃ m,m≤l.length∧Bd6 l m i
 me:∀ i,i<l.length→(l.getD i default).dead=true→(l.getD i default).meant=false
 st:∀ i,i<l.length→(l.getD i default).dead=true→∀ v∈(l.getD i default).next,(l.getD v default).dead=true
theorem Dv9 {l:List St} (hn:∀ i,i<l.length→∀ v∈(l.getD i default).next,v<l.length):DeadLaw (Bi8 l):=by
 unfold Bi8
 have h1:=Db1 (l.length+1) _ (dead0_ok hn)
 have h2:=Ci4 (l.length+1) (Aj9 l) (by have:=Cb5 (Aj9 l);rw [Ac2] at this;omega)
 have hl:(Aq0 (l.length+1) (Aj9 l)).length=(Aj9 l).length:=Bi9 _ _
 refine ⟨fun i hi hd=>?_,fun i hi hd=>?_,fun i hi=>h2 i (by omega)⟩
 ·obtain ⟨m,h3,h4⟩:=h1.go i hi hd
  exact ⟨m,by omega,h4⟩
 ·refine Eq3.2 fun hm=>?_
  have:=h1.me i hi hm
  rw [this] at hd;cases hd
theorem dfa_dead {k:Kn} {q:Wst} {budget:Nat} {l:List St} (h:Dd0 k q budget=some l) (hg:DGood (An5 k q budget) l):DeadLaw l:=by
 unfold Dd0 at h
 dsimp only at h
 split at h
 ·cases h
 injection h with h
 have hlen:l.length=(N4 (An5 k q budget)).l.length:=by rw [← h,Bi7]
 rw [← h]
 refine Dv9 fun i hi v hv=>?_
 rw [← hlen]
 refine hg.nv i (by omega) v ?_
 rw [← h,(Ao7 _ i hi).2.2.1]
 exact hv
theorem Dd3 {E:DE} {l:List St} (hg:DGood E l) (h:DeadLaw l):∀ (L:List Nat) (n:Nat),(∀ b∈L,b<256)→n<l.length→(l.getD n default).dead=true→(l.getD (L.foldl (Ae7 E l) n) default).meant=false
 |[],n,_,hn,hd=>h.me n hn hd
 |b::r,n,hb,hn,hd=>by
  have hb0:=hb b (Ej2 ..)
  exact Dd3 hg h r (Ae7 E l n b) (fun x hx=>hb x (Ej9 _ hx)) (Cb7 hg hn hb0) (h.st n hn hd _ (by unfold Ae7;exact I4 _ 0 _ (by rw [hg.nx n hn];exact hg.fv b hb0)))
end Go.Clt
end
namespace Go.Clt
open Go Go.RowKit Go.Proofs
def nxJ (E:DE) (l:List St) (k j:Nat):Nat:=Ae7 E l k (E.bytes.getD j 0)
def Bo6 (E:DE) (l:List St) (k x B:Nat):Bool:=(List.range B).any fun j=>decide (nxJ E l k j=x)
def onF (E:DE) (l:List St) (n:Nat):Nat→Nat→Bool
 |0,x=>decide (x=n)
 |i+1,x=>(List.range l.length).any fun k=>onF E l n i k && Bo6 E l k x E.bytes.length
def nxP (E:DE) (l:List St) (n i k j x:Nat):Bool:=((List.range k).any fun y=>onF E l n i y && Bo6 E l y x E.bytes.length)||(onF E l n i k && Bo6 E l k x j)
def mtB (E:DE) (l:List St) (n i x:Nat):Bool:=onF E l n i x && (l.getD x default).meant
def Dk3 (E:DE) (l:List St) (n i k:Nat):Bool:=((List.range i).any fun j=>(List.range l.length).any (mtB E l n j))||(List.range k).any (mtB E l n i)
theorem Au8 (f:Nat→Bool) (i:Nat):(List.range (i+1)).any f=((List.range i).any f||f i):=by
 rw [Ek6,List.any_append];simp
theorem nxP_zero (E:DE) (l:List St) (n i x:Nat):nxP E l n i 0 0 x=false:=by unfold nxP Bo6;simp
theorem nxP_step (E:DE) (l:List St) (n i k j x:Nat) (h:onF E l n i k=true):nxP E l n i k (j+1) x=if x=nxJ E l k j then true else nxP E l n i k j x:=by
 unfold nxP
 rw [h,Em7,Em7]
 unfold Bo6
 rw [Au8]
 by_cases hx:x=nxJ E l k j
 ·rw [Eg7 hx,Eh7 hx.symm];simp
 ·rw [Eg6 hx,Eh9 (fun h=>hx h.symm)];simp
theorem nxP_full (E:DE) (l:List St) (n i k j x:Nat) (h:j=E.bytes.length∨onF E l n i k=false):nxP E l n i k j x=nxP E l n i (k+1) 0 x:=by
 unfold nxP
 rw [Au8]
 have h0:Bo6 E l (k+1) x 0=false:=by unfold Bo6;simp
 rw [h0,Bool.and_false,Bool.or_false]
 rcases h with h|h
 ·rw [h]
 ·rw [h];simp
theorem nxP_end (E:DE) (l:List St) (n i x:Nat):nxP E l n i l.length 0 x=onF E l n (i+1) x:=by
 unfold nxP
 have h0:Bo6 E l l.length x 0=false:=by unfold Bo6;simp
 rw [h0,Bool.and_false,Bool.or_false]
 rfl
theorem Bk1 (E:DE) (l:List St) (n i k:Nat):Dk3 E l n i (k+1)=(Dk3 E l n i k||mtB E l n i k):=by
 unfold Dk3
 rw [Au8,Bool.or_assoc]
theorem Dy7 (E:DE) (l:List St) (n i:Nat):Dk3 E l n i l.length=Dk3 E l n (i+1) 0:=by
 unfold Dk3
 rw [Au8];simp
def Aa1 (f:Nat→Bool) (n:Nat):List Value:=(List.range n).map fun x=>.bool (f x)
theorem Cn0 (f:Nat→Bool) (n:Nat):(Aa1 f n).length=n:=by simp [Aa1]
theorem Cn1 (f:Nat→Bool) (n x:Nat) (h:x<n):(Aa1 f n)[x]?=some (.bool (f x)):=by simp [Aa1,h]
theorem De3 (n:Nat):List.replicate n (Value.bool false)=Aa1 (fun _=>false) n:=by
 unfold Aa1
 rw [eq_comm,List.eq_replicate_iff]
 refine ⟨by simp,fun x hx=>?_⟩
 obtain ⟨_,_,rfl⟩:=Em2.1 hx
 rfl
theorem Cc3 {f g:Nat→Bool} {n:Nat} (h:∀ x,x<n→f x=g x):Aa1 f n=Aa1 g n:=by
 unfold Aa1
 exact Eo9 fun x hx=>by rw [h x (Ei9.1 hx)]
theorem Cm9 {f g:Nat→Bool} {n x:Nat} (hx:x<n) (h:∀ y,g y=if y=x then true else f y):(Aa1 f n).take x++[Value.bool true]++(Aa1 f n).drop (x+1)=Aa1 g n:=by
 rw [X6 _ _ _ (by rw [Cn0];exact hx)]
 apply Ei6
 intro j
 unfold Aa1
 simp only [Ej4,Ei7,Em4,Em6]
 by_cases hj:x=j
 ·subst hj;simp [hx,h]
 ·rw [Eg6 hj]
  by_cases h2:j<n
  ·simp [h2,h,Ne.symm hj]
  ·simp [h2]
theorem go_on {k:Kn} {q:Wst} {bu:Nat} {l:List St} (hg:DGood (An5 k q bu) l) {n:Nat}:∀ m i x,x<l.length→onF (An5 k q bu) l n i x=true→Bd6 l m x→∃ y,y<l.length∧mtB (An5 k q bu) l n (i+m) y=true
 |0,i,x,hx,ho,hm=>by
  rw [Bd6] at hm
  exact ⟨x,hx,by unfold mtB;rw [Nat.add_zero,ho,hm];rfl⟩
 |m+1,i,x,hx,ho,hm=>by
  rw [Bd6] at hm
  obtain ⟨v,h1,h2⟩:=hm
  have hv:=hg.nv x hx v h1
  obtain ⟨j,hj,rfl⟩:=En3.1 h1
  have hnx:=hg.nx x hx
  have hjn:j<(An5 k q bu).nB:=by omega
  have hle:=Ci7 (An5 k q bu).q.S (i:=j) (show j<(F5 q.S).2 from hjn)
  have hb:(An5 k q bu).bytes.getD j 0=K3 (I9 (F5 q.S).1 256 j):=by
   show (Ai7 (F5 q.S).1 (F5 q.S).2).getD j 0=_
   unfold Ai7
   rw [Eg8,Ei7,Ej0 (show j<(F5 q.S).2 from hjn)];rfl
  have he:nxJ (An5 k q bu) l x j=(l.getD x default).next[j]:=by
   unfold nxJ Ae7
   rw [hb]
   have:(An5 k q bu).f.getD (K3 (I9 (F5 q.S).1 256 j)) 0=j:=hle.2.1
   rw [this,Eg8,Eh0 hj];rfl
  have ho2:onF (An5 k q bu) l n (i+1) (l.getD x default).next[j]=true:=by
   rw [onF,El1]
   refine ⟨x,Ei9.2 hx,?_⟩
   rw [ho,Em7]
   unfold Bo6
   rw [El1]
   exact ⟨j,Ei9.2 (by rw [hg.bl];exact hjn),Eh7 he⟩
  obtain ⟨y,h3,h4⟩:=go_on hg m (i+1) _ hv ho2 h2
  exact ⟨y,h3,by rw [show i+(m+1)=i+1+m by omega];exact h4⟩
theorem fnd_yes {k:Kn} {q:Wst} {bu:Nat} {l:List St} (hg:DGood (An5 k q bu) l) (hd:DeadLaw l) {n:Nat} (hn:n<l.length) (h:(l.getD n default).dead=false):Dk3 (An5 k q bu) l n (l.length+1) 0=true:=by
 obtain ⟨m,h1,h2⟩:=hd.go n hn h
 obtain ⟨y,h3,h4⟩:=go_on hg m 0 n hn (by rw [onF];exact Eh7 rfl) h2
 unfold Dk3
 rw [Bool.or_eq_true,El1]
 exact .inl ⟨m,Ei9.2 (by omega),El1.2 ⟨y,Ei9.2 h3,by rw [Ei3] at h4;exact h4⟩⟩
theorem Bf7 (a b:ByteArray):B5 (a++b)=B5 a++B5 b:=by
 unfold B5
 simp [ByteArray.append_eq,ByteArray.data_append]
theorem Dl5 (s:ByteArray) (m:Int) (sw sm:ByteArray) (w:World) (hL:Laid w):Calls P 4 #[.string s,.int .i64 m,.string sw,.string sm] w (Ret fun u w'=>u= .bool true∧Chg [] w w'):=by
 have hC:=A8 [] w
 have hltw:=P7 sw
 have hltm:=P7 sm
 try have hz4:=hL.sz
 refine D5 Tryz.func4 J J (Qd (Zc 1 J (Qa (Qd (Z 1 J (C9 J (F4 Tryz.underlying9 J) (Z 2 J (C0 (d:=26) J (fun g0=>?_) (fun g0=>?_)))))))))
 ·try simp at g0
  refine Qk J (Qk J (Qk J (Zc 1 J (E5 J (Qd (Ca fb12 J (Bm7 _ hL) ?_))))))
  rintro _ w1 ⟨rfl,hx1⟩
  have hC:=hC.s0 hx1
  exact Zc 1 J (A6 (B3 J J ⟨rfl,hC⟩))
 ·try simp at g0
  refine Qu J (Z 1 J (Qu J (C9 J (F4 Tryz.underlying9 J) (Qu J (Zc 2 J (A4 J (fun g1=>?_) (fun g1=>?_)))))))
  ·try simp at g1
   refine Qd (Ca fb12 J (Bm7 _ hL) ?_)
   rintro _ w2 ⟨rfl,hx2⟩
   have hC:=hC.s0 hx2
   exact Zc 1 J (A6 (B3 J J ⟨rfl,hC⟩))
  ·try simp at g1
   refine A7 (Qd (Z 2 J (Ca fb11 J (Ds0 s m _ hL) ?_)))
   rintro v6 w3 ⟨hx3,hno,hyes⟩
   have hz3:=hx3.size
   have hC:=hC.s0 hx3
   have hL:=hL.u hx3
   by_cases hf:As0 (B5 s) m=true
   ·obtain ⟨cs,p,rfl,hR,hA⟩:=hyes hf
    have hA0:=Dw2 s m hf
    obtain ⟨hfit,_,hG8,_,hpl⟩:=Ca5 (m:=m) (P7 s) (by unfold As0 at hf;simp only [Eh1,Ei4] at hf;exact hf.1.1)
    generalize T0 (S1 (B5 s) m).1=kq at*
    generalize (I3 (B5 s) m).1=t at*
    obtain ⟨k,q⟩:=kq
    simp only [] at hA hA0
    have hq:q.S.length≤10:=by rw [hA0.len];exact hpl
    obtain ⟨As,cS,pf,pl,bt,bf,rfl,hU⟩:=hR.open
    unfold Dm9
    have hF:∀ x,FR w.heap.size (World.heap w3).size [] x→x<(World.heap w3).size:=fun x hx=>hx.2.1
    generalize FR w.heap.size (World.heap w3).size []=F at*
    refine Z 4 J (B6 J (B8 zr27 J) ?_)
    intro b4 w4 hb4 hs4 hx4 hB4
    have hA:=hA.u hx4
    have hU:=hU.u hx4
    refine Z 1 J (Pe sz27 J ‹_› J J ?_)
    intro w5 hs5 hx5 hB4
    have hL:=hL.q (hx4.j hx5) (by simp<;>omega)
    have hA:=hA.q hx5 (by intro b hb hFb;have:=hF _ hFb;simp at hb;omega)
    have hU:=hU.q hx5 (by intro b hb hFb;have:=hF _ hFb;simp at hb;omega)
    refine Zc 1 J (Qa (Qd (Zc 2 J (E3 (rfl) (A7 (Qd (Z 1 J (Ca fb13 J (dnew_c _ p k q 200 _ hA (fun z hz=>by have:=hF z hz;omega) hL (by omega) (by omega)) ?_))))))))
    rintro v9 w6 ⟨hx6,hnone,hsome⟩
    have hz6:=hx6.size
    have hC:=hC.step ((hx4.j hx5).j hx6) (by simp<;>omega)
    have hL:=hL.u hx6
    have hU:=hU.u hx6
    have hB4:=hB4.u hx6
    by_cases hd:Dd0 k q 200=none
    ·have hv:=hnone hd
     subst hv
     refine Zc 5 J (Qa (Qd (Zc 2 J (E5 (rfl) (Qd (Z 1 J (C9 J (H4 Tryz.underlying31 J J) (Z 1 J (C0 (d:=51) J (fun g5=>?_) (fun g5=>?_))))))))))
     ·try simp at g5
      refine Qu J (Z 1 J (Qu J (Z 3 J (C0 (d:=55) J (fun g6=>?_) (fun g6=>?_)))))
      ·try simp at g6
       refine Qu J (Ca fb12 J (Bm7 _ hL) ?_)
       rintro _ w7 ⟨rfl,hx7⟩
       have hC:=hC.s0 hx7
       exact Zc 2 J (A6 (B3 J J ⟨rfl,hC⟩))
      ·try simp at g6
       all_goals simp at g6
     ·try simp at g5
      all_goals simp at g5
    ·obtain ⟨l,hl⟩:∃ l,Dd0 k q 200=some l:=by
      cases h:Dd0 k q 200 with
      |none=>exact absurd h hd
      |some l=>exact ⟨l,rfl⟩
     obtain ⟨pd,rfl,hD⟩:=hsome l hl
     have hD:=hD.mono (F':=fun x=>x<(World.heap w6).size) (fun z _ hz=>hz)
     have hg:=hD.good
     have hps:=hg.pos
     have hle:=hg.le
     have hdl:=dfa_law (by omega) hl hg
     have hdd:=dfa_dead hl hg
     have hlaw:=ways_law hg hdl (show SameA t (An5 k q 200).k (An5 k q 200).q from hA0)
     refine Zc 5 J (Qa (Qd (Zc 2 J (E3 (rfl) ?_))))
     have hnl:=Cb6 hg (B5 sw) 0 hps hltw
     change Bn9 (An5 k q 200) l (B5 sw)<l.length at hnl
     have hend:=fnd_yes hg hdd hnl
     have hdead:=fun h=>Dd3 hg hdd (B5 sm) _ hltm hnl h
     have hw1:=hlaw (B5 sw) hltw
     have hw2:=hlaw (B5 (sw++sm)) (P7 _)
     rw [Bf7] at hw2
     have hrr:Bn9 (An5 k q 200) l (B5 sw++B5 sm)=(B5 sm).foldl (Ae7 (An5 k q 200) l) (Bn9 (An5 k q 200) l (B5 sw)):=by unfold Bn9;rw [Ej6]
     rw [hrr] at hw2
     clear hlaw hdl hrr
     generalize An5 k q 200=E at*
     refine A7 (Qd (Z 2 J (Ca fb19 J (drun_c _ pd E l sw (by omega) _ hD) ?_)))
     rintro _ w8 ⟨rfl,hx8⟩
     have hz8:=hx8.size
     have hC:=hC.s0 hx8
     have hL:=hL.u hx8
     have hU:=hU.u hx8
     have hB4:=hB4.u hx8
     have hD:=hD.u hx8
     generalize hdr:Bn9 E l (B5 sw)=n0 at*
     have hF6:∀ x,F x→x<w6.heap.size:=fun x hx=>by have:=hF x hx;omega
     have hde:∀ i:Nat,i<l.length→(decide (0≤(i:Int)∧(i:Int)<(l.length:Int)) && (l.getD ((i:Int)).toNat default).dead)=(l.getD i default).dead:=fun i hi=>by rw [Eh7 ⟨by omega,by omega⟩,Em7,Eh4]
     have hme:∀ i:Nat,i<l.length→(decide (0≤(i:Int)∧(i:Int)<(l.length:Int)) && (l.getD ((i:Int)).toNat default).meant)=(l.getD i default).meant:=fun i hi=>by rw [Eh7 ⟨by omega,by omega⟩,Em7,Eh4]
     refine Zc 1 J (Qa (Qd (Z 3 J (C0 (d:=63) J (fun g7=>?_) (fun g7=>?_)))))
     ·try simp at g7
      exfalso
      omega
     ·try simp at g7
      refine Qu J (Z 1 J (Qu J (Z 1 J (Qu J (Ca fb15 J (Z3 _ pd _ l _ hD) ?_)))))
      rintro _ w9 ⟨rfl,hx9⟩
      have hz9:=hx9.size
      have hC:=hC.s0 hx9
      have hL:=hL.u hx9
      have hU:=hU.u hx9
      have hB4:=hB4.u hx9
      have hD:=hD.u hx9
      refine Qu J (Zc 2 J (A4 J (fun g8=>?_) (fun g8=>?_)))
      ·try simp at g8
       exfalso
       omega
      ·try simp at g8
       refine A7 (Qa (H9 (fun e9 wr=>Sub [(2,.string sw),(10,.pointer (some ⟨b4,0,none⟩)),(12,.pointer (some ⟨pd,0,none⟩)),(14,.int .i64 (n0:Nat)),(79,.bool false)] e9∧Chg [] w wr∧Laid wr∧IsDfa (fun x=>x<w6.heap.size) wr pd E l∧RAu F wr t As pf pl bt bf∧Blk wr b4 [.slice As (P4 t).length cS,.int .i64 (O2 t),.slice (some ⟨pf,0,none⟩) (B9 t) (B9 t),.slice (some ⟨pl,0,none⟩) (B9 t) (B9 t),.slice (some ⟨bt,0,none⟩) (B9 t) (B9 t)] 27∧w6.heap.size≤wr.heap.size) ?_ ?_))
       ·refine Qb (Z 2 J (Ca fb20 J (Eb8 _ pd E l (n0:Nat) _ hD) ?_))
        rintro _ w10 ⟨rfl,hx10⟩
        have hz10:=hx10.size
        have hC:=hC.s0 hx10
        have hL:=hL.u hx10
        have hU:=hU.u hx10
        have hB4:=hB4.u hx10
        have hD:=hD.u hx10
        refine Z 1 J (C0 (d:=72) J (fun m1=>?_) (fun m1=>?_))
        ·rw [hde n0 hnl] at m1
         refine Qu J (La ag27 J ‹_› J J ?_)
         refine Qu J (Z 1 J (Qu J (Z 1 J (Qu J (C9 J (Ax8 J J (by omega)) (Qu J (Ca fb21 J (Dr4 t hG8 (by omega) (sw++sm) (by rw [ByteArray.size_append];omega) As cS pf pl bt bf F _ (fun z hz=>by have:=hF z hz;omega) hU) ?_)))))))
         rintro _ w11 ⟨rfl,hx11⟩
         have hz11:=hx11.size
         have hC:=hC.s0 hx11
         have hL:=hL.u hx11
         have hU:=hU.u hx11
         have hB4:=hB4.u hx11
         have hD:=hD.u hx11
         refine Qu J (Zc 2 J ⟨⟨rfl,rfl,rfl,rfl,(G7 J (by rw [hdead m1,← Bf7] at hw2;rw [Eq3,Ne,cmpB_gtr];exact Ep9 hw2.symm)),trivial⟩,?_⟩)
         exact ⟨hC,hL,hD,hU,hB4,by omega⟩
        ·refine Qk J (Qk J (Qk J (Qk J (Qk J (Qk J (Zc 1 J ⟨(sb J),?_⟩))))))
         exact ⟨hC,hL,hD,hU,hB4,by omega⟩
       rintro e9 w20 ⟨hs9,hC,hL,hD,hU,hB4,hz20⟩
       refine H8 _ hs9 ?_
       clear hs9 e9
       try have hlB4:=hB4.lt
       refine E3 (rfl) (A7 (H9 (fun e9 wr=>Sub [(2,.string sw),(10,.pointer (some ⟨b4,0,none⟩)),(12,.pointer (some ⟨pd,0,none⟩)),(14,.int .i64 (n0:Nat))] e9∧Chg [] w wr∧Laid wr∧IsDfa (fun x=>x<w6.heap.size) wr pd E l∧RAu F wr t As pf pl bt bf∧Blk wr b4 [.slice As (P4 t).length cS,.int .i64 (O2 t),.slice (some ⟨pf,0,none⟩) (B9 t) (B9 t),.slice (some ⟨pl,0,none⟩) (B9 t) (B9 t),.slice (some ⟨bt,0,none⟩) (B9 t) (B9 t)] 27∧w6.heap.size≤wr.heap.size) ?_ ?_))
       ·refine Qd (Z 2 J (Ca fb20 J (Eb8 _ pd E l (n0:Nat) _ hD) ?_))
        rintro _ w12 ⟨rfl,hx12⟩
        have hz12:=hx12.size
        have hC:=hC.s0 hx12
        have hL:=hL.u hx12
        have hD:=hD.u hx12
        have hU:=hU.u hx12
        have hB4:=hB4.u hx12
        refine Zc 1 J (A4 J (fun d1=>?_) (fun d1=>?_))
        ·rw [hde n0 hnl] at d1
         have hend:=hend (by simpa using d1)
         refine Qd (Z 1 J (Ca fb15 J (Z3 _ pd _ l _ hD) ?_))
         rintro _ w13 ⟨rfl,hx13⟩
         have hz13:=hx13.size
         refine B6 J (N3 el43 zr4 J (cs:=List.replicate l.length (.bool false)) (by omega) (by omega) (by show (madeCells #[_] (((l.length:Nat):Int).toNat*1)).toList=_;rw [Eh4,Ek7,Q9])) ?_
         intro b14 w14 hb14 hs14 hx14 hB14
         have hU:=hU.u (hx13.s0 hx14)
         refine Zc 1 J (Qd (Z 2 J (C9 J (B1 Do1 J J (by omega) (by omega)) (Pb (cs':=(Aa1 (onF E l n0 0) l.length)) sz4 J J hB14 J J J (by rw [Ek3,El9];omega) (by rw [Eh4,Ei3,De3];exact Cm9 hnl (fun y=>by rw [onF];by_cases h:y=n0<;>simp [h])) ?_))))
         intro w15 hs15 hx15 hB14
         have hC:=hC.step ((hx13.j hx14).j hx15) (by simp<;>omega)
         have hL:=hL.q ((hx13.j hx14).j hx15) (by simp<;>omega)
         have hD:=hD.q ((hx13.j hx14).j hx15) (by simp<;>omega)
         have hU:=hU.q hx15 (by intro b hb hFb;have:=hF _ hFb;simp at hb;omega)
         have hB4:=hB4.q ((hx13.j hx14).j hx15) (by simp<;>omega)
         refine Qc (Qd (Zc 1 J (Qa (Qd (Zc 1 J (B2 (D9 (σ:=Nat × Nat) (fun (i,bo)=>[(2,.string sw),(10,.pointer (some ⟨b4,0,none⟩)),(12,.pointer (some ⟨pd,0,none⟩)),(14,.int .i64 (n0:Nat)),(15,.slice (some ⟨bo,0,none⟩) l.length l.length),(16,.bool (Dk3 E l n0 i 0)),(17,.int .i64 (i:Nat))]) (fun (i,bo) wr=>Chg [] w wr∧Laid wr∧IsDfa (fun x=>x<w6.heap.size) wr pd E l∧RAu F wr t As pf pl bt bf∧Blk wr b4 [.slice As (P4 t).length cS,.int .i64 (O2 t),.slice (some ⟨pf,0,none⟩) (B9 t) (B9 t),.slice (some ⟨pl,0,none⟩) (B9 t) (B9 t),.slice (some ⟨bt,0,none⟩) (B9 t) (B9 t)] 27∧w6.heap.size≤wr.heap.size∧Blk wr bo (Aa1 (onF E l n0 i) l.length) 4∧i≤l.length+1) (fun (i,bo) wr=>l.length+1 - i) (0,b14) (sb J) ?_ ?_)))))))
         ·exact ⟨hC,hL,hD,hU,hB4,by omega,hB14,Eh6 _⟩
         rintro ⟨i,bo⟩ w40 ⟨hC,hL,hD,hU,hB4,hz40,hBo,hi⟩
         try have hlBo:=hBo.lt
         refine Qa (Qd (Z 2 J (Ca fb15 J (Z3 _ pd E l _ hD) ?_)))
         rintro _ w16 ⟨rfl,hx16⟩
         have hz16:=hx16.size
         have hC:=hC.s0 hx16
         have hL:=hL.u hx16
         have hD:=hD.u hx16
         have hU:=hU.u hx16
         have hB4:=hB4.u hx16
         have hBo:=hBo.u hx16
         refine Zc 1 J (A4 J (fun g9=>?_) (fun g9=>?_))
         ·try simp at g9
          refine A7 (Qa (B2 (Qd (Z 1 J (Ca fb15 J (Z3 _ pd E l _ hD) ?_)))))
          rintro _ w17 ⟨rfl,hx17⟩
          have hz17:=hx17.size
          refine B6 J (N3 el43 zr4 J (cs:=List.replicate l.length (.bool false)) (by omega) (by omega) (by show (madeCells #[_] (((l.length:Nat):Int).toNat*1)).toList=_;rw [Eh4,Ek7,Q9])) ?_
          intro b18 w18 hb18 hs18 hx18 hBn
          have hC:=hC.s0 (hx17.s0 hx18)
          have hL:=hL.u (hx17.s0 hx18)
          have hD:=hD.u (hx17.s0 hx18)
          have hU:=hU.u (hx17.s0 hx18)
          have hB4:=hB4.u (hx17.s0 hx18)
          have hBo:=hBo.u (hx17.s0 hx18)
          have hlo:=hBo.lt
          have hbo:bo<b18:=by omega
          have hb9w:w6.heap.size≤b18:=by omega
          have hUS:∀ b∈[b18],¬ F b:=fun b hb h=>by have:=hF6 b h;simp at hb;omega
          refine Zc 1 J (Qa (Qd (Zc 1 J (B2 (D9 (σ:=Nat) (fun k=>[(2,.string sw),(10,.pointer (some ⟨b4,0,none⟩)),(12,.pointer (some ⟨pd,0,none⟩)),(14,.int .i64 (n0:Nat)),(15,.slice (some ⟨bo,0,none⟩) l.length l.length),(16,.bool (Dk3 E l n0 i k)),(17,.int .i64 (i:Nat)),(18,.slice (some ⟨b18,0,none⟩) l.length l.length),(19,.int .i64 (k:Nat))]) (fun k wr=>Chg [] w wr∧Laid wr∧IsDfa (fun x=>x<w6.heap.size) wr pd E l∧RAu F wr t As pf pl bt bf∧Blk wr b4 [.slice As (P4 t).length cS,.int .i64 (O2 t),.slice (some ⟨pf,0,none⟩) (B9 t) (B9 t),.slice (some ⟨pl,0,none⟩) (B9 t) (B9 t),.slice (some ⟨bt,0,none⟩) (B9 t) (B9 t)] 27∧w6.heap.size≤wr.heap.size∧Blk wr bo (Aa1 (onF E l n0 i) l.length) 4∧Blk wr b18 (Aa1 (nxP E l n0 i k 0) l.length) 4∧k≤l.length) (fun k wr=>l.length - k) 0 (sb J) ?_ ?_)))))
          ·exact ⟨hC,hL,hD,hU,hB4,by omega,hBo,by rw [show Aa1 (nxP E l n0 i 0 0) l.length=List.replicate l.length (.bool false) by rw [De3];exact Cc3 fun x _=>nxP_zero E l n0 i x];exact hBn,Eh6 _⟩
          rintro k w50 ⟨hC,hL,hD,hU,hB4,hz50,hBo,hBn,hk⟩
          try have hlBn:=hBn.lt
          refine Qa (Qd (Z 2 J (Ca fb15 J (Z3 _ pd E l _ hD) ?_)))
          rintro _ w19 ⟨rfl,hx19⟩
          have hz19:=hx19.size
          have hC:=hC.s0 hx19
          have hL:=hL.u hx19
          have hD:=hD.u hx19
          have hU:=hU.u hx19
          have hB4:=hB4.u hx19
          have hBo:=hBo.u hx19
          have hBn:=hBn.u hx19
          refine Zc 1 J (A4 J (fun q1=>?_) (fun q1=>?_))
          ·try simp at q1
           have hkl:k<l.length:=by omega
           refine A7 (Qa (B2 (H9 (fun e9 wr=>Sub [(2,.string sw),(10,.pointer (some ⟨b4,0,none⟩)),(12,.pointer (some ⟨pd,0,none⟩)),(14,.int .i64 (n0:Nat)),(15,.slice (some ⟨bo,0,none⟩) l.length l.length),(16,.bool (Dk3 E l n0 i (k+1))),(17,.int .i64 (i:Nat)),(18,.slice (some ⟨b18,0,none⟩) l.length l.length),(19,.int .i64 (k:Nat))] e9∧Chg [] w wr∧Laid wr∧IsDfa (fun x=>x<w6.heap.size) wr pd E l∧RAu F wr t As pf pl bt bf∧Blk wr b4 [.slice As (P4 t).length cS,.int .i64 (O2 t),.slice (some ⟨pf,0,none⟩) (B9 t) (B9 t),.slice (some ⟨pl,0,none⟩) (B9 t) (B9 t),.slice (some ⟨bt,0,none⟩) (B9 t) (B9 t)] 27∧w6.heap.size≤wr.heap.size∧Blk wr bo (Aa1 (onF E l n0 i) l.length) 4∧Blk wr b18 (Aa1 (nxP E l n0 i k 0) l.length) 4) ?_ ?_)))
           ·refine Qb (Z 2 J (C0 (d:=106) J (fun m1=>?_) (fun m1=>?_)))
            ·refine Qk J (Qk J (Qk J (Qk J (Qk J (G4 J J J J (fun h=>by cases h) ?_)))))
             refine G4 J J J J (fun h=>by cases h) ?_
             refine G4 J J J J (fun h=>by cases h) ?_
             refine Qk J (Zc 2 J ⟨⟨rfl,rfl,rfl,rfl,rfl,(G7 J (by rw [Bk1,m1];rfl)),rfl,rfl,rfl,trivial⟩,?_⟩)
             exact ⟨hC,hL,hD,hU,hB4,by omega,hBo,hBn⟩
            ·refine Qu J (Z 1 J (Qu J (Z 1 J (Qu J (C9 J (B1 Do1 J J (by omega) (by omega)) (Qu J (Lc o4 J (by rw [hBo.cell,Ei3];exact Cn1 _ _ k hkl) ?_)))))))
             refine Qu J (Z 1 J (C0 (d:=111) J (fun m2=>?_) (fun m2=>?_)))
             ·refine Qu J (Z 1 J (Qu J (Z 1 J (Qu J (Ca fb18 J (Cb3 _ pd E l (k:Nat) _ hD) ?_)))))
              rintro _ w20 ⟨rfl,hx20⟩
              have hz20:=hx20.size
              have hC:=hC.s0 hx20
              have hL:=hL.u hx20
              have hD:=hD.u hx20
              have hU:=hU.u hx20
              have hB4:=hB4.u hx20
              have hBo:=hBo.u hx20
              have hBn:=hBn.u hx20
              refine Qu J (Zc 3 J ⟨⟨rfl,rfl,rfl,rfl,rfl,(G7 J (by rw [hme k hkl,Bk1,m1];unfold mtB;rw [m2];rfl)),rfl,rfl,rfl,trivial⟩,?_⟩)
              exact ⟨hC,hL,hD,hU,hB4,by omega,hBo,hBn⟩
             ·refine Qk J (Qk J (Qk J (Qu J (Zc 3 J ⟨⟨rfl,rfl,rfl,rfl,rfl,(G7 J (by rw [Bk1,m1];unfold mtB;rw [m2];rfl)),rfl,rfl,rfl,trivial⟩,?_⟩))))
              exact ⟨hC,hL,hD,hU,hB4,by omega,hBo,hBn⟩
           rintro e9 w51 ⟨hs9,hC,hL,hD,hU,hB4,hz51,hBo,hBn⟩
           refine H8 _ hs9 ?_
           clear hs9 e9
           refine Qd (Zc 1 J (B2 (D9 (σ:=Nat) (fun j=>[(2,.string sw),(10,.pointer (some ⟨b4,0,none⟩)),(12,.pointer (some ⟨pd,0,none⟩)),(14,.int .i64 (n0:Nat)),(15,.slice (some ⟨bo,0,none⟩) l.length l.length),(16,.bool (Dk3 E l n0 i (k+1))),(17,.int .i64 (i:Nat)),(18,.slice (some ⟨b18,0,none⟩) l.length l.length),(19,.int .i64 (k:Nat)),(20,.int .i64 (j:Nat))]) (fun j wr=>Chg [] w wr∧Laid wr∧IsDfa (fun x=>x<w6.heap.size) wr pd E l∧RAu F wr t As pf pl bt bf∧Blk wr b4 [.slice As (P4 t).length cS,.int .i64 (O2 t),.slice (some ⟨pf,0,none⟩) (B9 t) (B9 t),.slice (some ⟨pl,0,none⟩) (B9 t) (B9 t),.slice (some ⟨bt,0,none⟩) (B9 t) (B9 t)] 27∧w6.heap.size≤wr.heap.size∧Blk wr bo (Aa1 (onF E l n0 i) l.length) 4∧Blk wr b18 (Aa1 (nxP E l n0 i k j) l.length) 4∧j≤E.bytes.length∧(j=0∨onF E l n0 i k=true)) (fun j wr=>E.bytes.length - j) 0 (sb J) ?_ ?_)))
           ·exact ⟨hC,hL,hD,hU,hB4,by omega,hBo,hBn,Eh6 _,.inl J⟩
           rintro j w60 ⟨hC,hL,hD,hU,hB4,hz60,hBo,hBn,hj,hj0⟩
           try have hlBn:=hBn.lt
           refine Qa (H9 (fun e9 wr=>Sub [(2,.string sw),(10,.pointer (some ⟨b4,0,none⟩)),(12,.pointer (some ⟨pd,0,none⟩)),(14,.int .i64 (n0:Nat)),(15,.slice (some ⟨bo,0,none⟩) l.length l.length),(16,.bool (Dk3 E l n0 i (k+1))),(17,.int .i64 (i:Nat)),(18,.slice (some ⟨b18,0,none⟩) l.length l.length),(19,.int .i64 (k:Nat)),(20,.int .i64 (j:Nat)),(127,.bool (decide (j<E.bytes.length∧onF E l n0 i k=true)))] e9∧Chg [] w wr∧Laid wr∧IsDfa (fun x=>x<w6.heap.size) wr pd E l∧RAu F wr t As pf pl bt bf∧Blk wr b4 [.slice As (P4 t).length cS,.int .i64 (O2 t),.slice (some ⟨pf,0,none⟩) (B9 t) (B9 t),.slice (some ⟨pl,0,none⟩) (B9 t) (B9 t),.slice (some ⟨bt,0,none⟩) (B9 t) (B9 t)] 27∧w6.heap.size≤wr.heap.size∧Blk wr bo (Aa1 (onF E l n0 i) l.length) 4∧Blk wr b18 (Aa1 (nxP E l n0 i k j) l.length) 4) ?_ ?_)
           ·refine Qb (Z 2 J (Ca fb22 J (Dd5 _ pd E l _ (fun x (hx:x<w6.heap.size)=>by omega) hD) ?_))
            rintro _ w21 ⟨hx21,A9,c9,rfl,hO9⟩
            have hz21:=hx21.size
            have hC:=hC.s0 hx21
            have hL:=hL.u hx21
            have hD:=hD.u hx21
            have hU:=hU.u hx21
            have hB4:=hB4.u hx21
            have hBo:=hBo.u hx21
            have hBn:=hBn.u hx21
            refine Ln Tryz.underlying44 J (Z 2 J (C0 (d:=122) J (fun e1=>?_) (fun e1=>?_)))
            ·try simp at e1
             refine Qu J (Z 1 J (Qu J (Z 1 J (Qu J (C9 J (B1 Do1 J J (by omega) (by omega)) (Qu J (Lc o4 J (by rw [hBo.cell,Ei3];exact Cn1 _ _ k hkl) ?_)))))))
             refine Zc 1 J ⟨⟨rfl,rfl,rfl,rfl,rfl,rfl,rfl,rfl,rfl,rfl,(G7 J (by rw [Ei0,Ei1];exact ⟨fun h=>⟨by omega,h⟩,fun h=>h.2⟩)),trivial⟩,?_⟩
             exact ⟨hC,hL,hD,hU,hB4,by omega,hBo,hBn⟩
            ·try simp at e1
             refine Qk J (Qk J (Qk J (Qk J (Zc 1 J ⟨⟨rfl,rfl,rfl,rfl,rfl,rfl,rfl,rfl,rfl,rfl,(G7 J (by rw [Eh9 (by omega)])),trivial⟩,?_⟩))))
             exact ⟨hC,hL,hD,hU,hB4,by omega,hBo,hBn⟩
           rintro e9 w61 ⟨hs9,hC,hL,hD,hU,hB4,hz61,hBo,hBn⟩
           refine H8 _ hs9 ?_
           clear hs9 e9
           try have hlBn:=hBn.lt
           refine A4 J (fun q3=>?_) (fun q3=>?_)
           ·have q3:=El4 q3
            have hby:=hg.by_ _ (I4 E.bytes 0 j q3.1)
            have hxl:Ae7 E l k (E.bytes.getD j 0)<l.length:=Cb7 hg hkl hby
            have hbl:=hg.bl
            have hnb:=hg.nb
            refine A7 (Qa (B2 (Qd (Z 3 J (Ca fb22 J (Dd5 _ pd E l _ (fun x (hx:x<w6.heap.size)=>by omega) hD) ?_)))))
            rintro _ w22 ⟨hx22,A9,c9,rfl,hO9⟩
            have hz22:=hx22.size
            have hD:=hD.u hx22
            have hrd9:=hO9.rd (F:=fun x=>x<(World.heap w22).size) (fun _ _ h=>h)
            obtain ⟨g9,o9,rfl,_,hlt9,hcell9⟩:=hrd9.at_ (by omega)
            refine Z 1 J (C9 J (B1 Aq4 J J (by omega) (by omega)) (Lc o5 J (hrd9.one (Cc1 E.bytes j q3.1)).2 (Ca fb16 J (Ea8 _ pd E l k (E.bytes.getD j 0) hkl hby _ hD) ?_)))
            rintro _ w23 ⟨rfl,hx23⟩
            have hz23:=hx23.size
            have hU:=hU.u (hx22.s0 hx23)
            have hBn:=hBn.u (hx22.s0 hx23)
            refine Zc 5 J (Qb (Z 2 J (C9 J (B1 Do1 J J (by omega) (by omega)) (Pb (cs':=(Aa1 (nxP E l n0 i k (j+1)) l.length)) sz4 J J hBn J J J (by rw [Cn0,El9];omega) (by rw [Eh4,Ei3];exact Cm9 hxl (fun y=>nxP_step E l n0 i k j y q3.2)) ?_))))
            intro w24 hs24 hx24 hBn
            have hC:=hC.step ((hx22.j hx23).j hx24) (by simp<;>omega)
            have hL:=hL.q ((hx22.j hx23).j hx24) (by simp<;>omega)
            have hD:=hD.q (hx23.j hx24) (by simp<;>omega)
            have hU:=hU.q hx24 ‹_›
            have hB4:=hB4.q ((hx22.j hx23).j hx24) (by simp<;>omega)
            have hBo:=hBo.q ((hx22.j hx23).j hx24) (by simp<;>omega)
            refine Qc (Qb (Z 1 J (Ad J J (by omega) (Zc 1 J ⟨j+1,sb J,?_,?_⟩))))
            exact ⟨hC,hL,hD,hU,hB4,by omega,hBo,hBn,by omega,.inr q3.2⟩
            show E.bytes.length - (j+1)<E.bytes.length - j
            omega
           ·have q3:=Ep9 q3
            have hfull:j=E.bytes.length∨onF E l n0 i k=false:=by
             by_cases h:j=E.bytes.length
             ·exact .inl h
             ·exact .inr (Eq3.2 fun ho=>q3 ⟨by omega,ho⟩)
            rw [Cc3 (fun x _=>nxP_full E l n0 i k j x hfull)] at hBn
            refine Xb (Qb (Z 1 J (Ad J J (by omega) (Zc 1 J ⟨k+1,sb J,?_,?_⟩))))
            exact ⟨hC,hL,hD,hU,hB4,by omega,hBo,hBn,hkl⟩
            show l.length - (k+1)<l.length - k
            omega
          ·try simp at q1
           have hkk:k=l.length:=by omega
           subst hkk
           rw [Cc3 (fun x _=>nxP_end E l n0 i x)] at hBn
           refine Xb (Qb (Zc 2 J (Qb (Z 1 J (Ad J J (by omega) (Zc 1 J ⟨(i+1,b18),⟨rfl,rfl,rfl,rfl,rfl,(G7 J (Dy7 E l n0 i)),rfl,trivial⟩,?_,?_⟩))))))
           exact ⟨hC,hL,hD,hU,hB4,by omega,hBn,by omega⟩
           show l.length+1 - (i+1)<l.length+1 - i
           omega
         ·try simp at g9
          have hii:i=l.length+1:=by omega
          subst hii
          refine Xb (Qd (Zc 2 J (A4 J (fun f1=>?_) (fun f1=>?_))))
          ·rw [hend] at f1
           cases f1
          ·refine A7 ⟨(sb J),?_⟩
           exact ⟨hC,hL,hD,hU,hB4,by omega⟩
        ·refine A7 ⟨(sb J),?_⟩
         exact ⟨hC,hL,hD,hU,hB4,by omega⟩
       rintro e9 w70 ⟨hs9,hC,hL,hD,hU,hB4,hz70⟩
       refine H8 _ hs9 ?_
       clear hs9 e9
       try have hlB4:=hB4.lt
       have hrw:=(show (l.getD n0 default).meant=decide (0<Dg2 t (B5 sw)) from hw1)
       refine Qa (C8 (S:=[]) 14 [(0,0),(0,1),(0,3),(0,4),(1,2),(1,5),(0,6),(0,7),(0,8),(0,9),(0,10),(0,12),(0,13),(1,11),(2,14),(2,15),(2,16),(2,17),(2,18),(2,19),(2,20)] mo (by kernel_rfl) ?_)
       intro w25 hx25 hh25
       have hD:=hD.u hx25
       have hB4:=hB4.u hx25
       have hCS25:=A8 ([]) w25
       refine Z 2 J (D6 J (C1 ag27 J ‹_› (by simp;done) J J) ?_)
       refine Z 1 J (C5 J (C2 fb23 J) (Be8 _ pd E l sw (by omega) _ hD) ?_)
       rintro _ w26 ⟨rfl,hx26⟩
       have hz26:=hx26.size
       have hU:=hU.u (hx25.s0 hx26)
       have hCS25:=hCS25.s0 hx26
       refine ⟨hCS25,?_⟩
       refine C5 J (C2 fb21 J) (Dr4 t hG8 (by omega) sw (by omega) As cS pf pl bt bf F _ (fun z hz=>by have:=hF z hz;omega) hU) ?_
       rintro _ w27 ⟨rfl,hx27⟩
       have hD:=hD.u (hx26.s0 hx27)
       have hCS25:=hCS25.s0 hx27
       refine ⟨hCS25,?_⟩
       refine Z 1 J (D6 J (Does.to (Df7 Tryz.underlying4 J J) (I1 (show _=true from by rw [hdr,hrw];simp [Aa0]))) ?_)
       refine Z 1 J (Qu J (Z 1 J (Qu J (Z 1 J (Qu J (Z 1 J (Qu J (Z 1 J (Qu J (C5 J (C2 fb18 J) (Cb3 _ pd E l (n0:Nat) _ hD) ?_))))))))))
       rintro _ w28 ⟨rfl,hx28⟩
       have hD:=hD.u hx28
       have hCS25:=hCS25.s0 hx28
       refine ⟨hCS25,?_⟩
       refine Qu J (Ca fb23 J (Be8 _ pd E l sw (by omega) _ hD) ?_)
       rintro _ w29 ⟨rfl,hx29⟩
       have hL:=hL.u ((((hx25.s0 hx26).s0 hx27).s0 hx28).s0 hx29)
       refine Qu J (C9 J (Does.to (Df7 Tryz.underlying4 J J) (I1 (show _=true from by rw [hme n0 hnl,hdr];simp))) ?_)
       refine Z 2 J (Qu J (Ca fb12 J (Bm7 _ hL) ?_))
       rintro _ w30 ⟨rfl,hx30⟩
       have hC:=hC.s0 (((((hx25.s0 hx26).s0 hx27).s0 hx28).s0 hx29).s0 hx30)
       exact Zc 2 J (A6 (B3 J J ⟨rfl,hC⟩))
   ·have hf':As0 (B5 s) m=false:=by simpa using hf
    obtain ⟨cs,rfl,hone,hlen⟩:=hno hf'
    obtain ⟨a0,a1,a2,a3,a4,rfl⟩:∃ a0 a1 a2 a3 a4,cs=[a0,a1,a2,a3,a4]:=by
     match cs,hlen with
     |[a0,a1,a2,a3,a4],_=>exact ⟨a0,a1,a2,a3,a4,rfl⟩
    refine Z 4 J (B6 J (B8 zr27 J) ?_)
    intro b31 w31 hb31 hs31 hx31 hB31
    refine Z 1 J (Pb (cs':=[a0,a1,a2,a3,a4]) sz27 J J hB31 J J hone J J ?_)
    intro w32 hs32 hx32 hB32
    have hL:=hL.q (hx31.j hx32) (by simp<;>omega)
    refine Zc 1 J (Qa (Qd (Zc 2 J (E5 (rfl) (Qd (Ca fb12 J (Bm7 _ hL) ?_))))))
    rintro _ w33 ⟨rfl,hx33⟩
    have hC:=hC.step ((hx31.j hx32).j hx33) (by simp<;>omega)
    exact Zc 1 J (A6 (B3 J J ⟨rfl,hC⟩))
end Go.Clt
