import Derived.ChangeKeysEq
import Derived.Maps.RangeRun
import Derived.Test.YtckdapbopihofaaGreatDoorPl2
/- The word of any place, any word's place, and the next one (WordsPlaces). A part of that proof: Syn6, Syn7, Slc, Slc2, SetEq, Skip, Form, Form2, Form3, Form4, Form5, CoreP, Core1, Core2, Core3, Core4, Core5, Core6, Core7, Core8, Core9, Core10, Mp, WeighP, Weigh1, WeighM, Weigh2, WeighL, Weigh3, Weigh4, Weigh5. Conditions: none beyond the statement's own. By an AI agent; no person has read it. -/
set_option linter.unusedVariables false
set_option linter.unusedSimpArgs false
set_option maxRecDepth 8000
set_option maxHeartbeats 4000000
namespace Go.Clt
open Go Go.RowKit Go.Proofs
theorem Cq2 {T:List Tok} {en:Nat} {q:Pp} (h:¬ (q.e=0∧isQ T en q 4=true)) (f:Nat) (l:List Syn):altL T en f q l=(Ay1 5 l,q):=by
 cases f with
 |zero=>unfold altL;rfl
 |succ f=>unfold altL;rw [Ek0 h]
theorem palt_c (T:List Tok) (A:Option Addr) (c en f:Nat) (hT:T.length≤1048576) (hC0:∀ g,g≤f→CatC T A c en g):AltC T A c en (f+1):=by
 intro p b w hf hn hd hr hR;have hbw:=hR.lt;have hC:=A8 [b] w;have hgc:=(allQ T en f).cat p hn;refine D4 Tryz.func125 J J (Qd (Zc 1 J (Qd (Z 1 J (Ca fb149 J (hC0 f (El1 _) p b _ (by omega) hn hd ‹_› ‹_›) ?_)))));rintro v5 w1 ⟨hx1,hR',hI'⟩;have hz1:=hx1.size;have hr:=hr.q hx1 (by intro x hx hf;have hx:=Ek3.1 hx;have h1:=hf.1;have h2:=hf.2.1;omega);clear hR;have hR:=hR';clear hR';have hI:=hI';clear hI';obtain ⟨pn,_,hv5,_,_,_,_,_⟩:=hI.span;subst hv5;rw [Y3];generalize hr0:altL T en f (Aq9 T en f p).2 [(Aq9 T en f p).1]=r at*;generalize Aq9 T en f p=m at*;refine B5 J (B7 Am1 Tryz.underlying241 Cs2 J J J (by rfl)) ?_;intro b2 w2 hb2 hs2 hx2 hB2;have hC:=hC.step (hx1.j hx2) (by simp<;>omega);have hR:=hR.u hx2;have hr:=hr.u hx2;have hI:=hI.u hx2
 refine Zc 1 J (I3 (fun e9 wr=>∃ q l vs A' c',Sub [(0,.pointer (some ⟨b,0,none⟩)),(3,.slice A' l.length c')] e9∧Chg [b] w wr∧Blk wr b (psC A T.length c en q) 202∧Own wr w.heap.size 149 1 A' l.length c' vs∧IsSyns (FR w.heap.size wr.heap.size (F7 A')) wr l vs∧r=(Ay1 5 l,q)∧l.length≤T.length+1∧0<l.length) ?_ ?_)
 ·have hO:=hB2.own (sz:=1) (m:=1) (lo:=w.heap.size) J (by omega) (by omega)
  refine B2 (D8 (σ:=Nat × Pp × List Syn × List Value × Option Addr × Nat) (fun (g,q,l,vs,A',c')=>[(0,.pointer (some ⟨b,0,none⟩)),(3,.slice A' l.length c')]) (fun (g,q,l,vs,A',c') wr=>Chg [b] w wr∧Rd (FR 0 b []) wr 10 A T.length (Ac1 T)∧Blk wr b (psC A T.length c en q) 202∧Own wr w.heap.size 149 1 A' l.length c' vs∧IsSyns (FR w.heap.size wr.heap.size (F7 A')) wr l vs∧r=altL T en g q l∧(q.e=0→5*left T q+4≤g)∧GoQ T p q∧l.length≤q.next+1∧g≤f∧0<l.length) (fun (g,q,l,vs,A',c') wr=>g) (f,m.2,[m.1],[.pointer (some ⟨pn,0,none⟩)],some ⟨b2,0,none⟩,1) (sb J) ?_ ?_)
  ·refine ⟨hC,hr,hR,hO,⟨_,[],rfl,hI.mono (fun y hy _=>⟨hy.1,by have:=hy.2.1;omega,?_⟩),rfl⟩,hr0.symm,fun _=>?_,hgc,by show 1≤_;omega,El1 _,Nat.succ_pos _⟩;simp [F7];have:=hy.2.1;omega;have:=hgc.ge;have:left T m.2≤left T p:=by unfold left;omega
   show _≤f;omega
  rintro ⟨g,q,l,vs,A',c'⟩ w9 ⟨hC,hr,hR,hO,hIs,hrr,hfu,hgo,hlq,hgf,hl0⟩;have hOb:=hO.blk;have hqd:q.deep≤200:=by rw [hgo.deep];exact hd
  have hql:=hgo.le
  try have hzw:=hC.size
  refine Qa (Qd (Z 2 J (Fa Aj2 J (Lb o32 J ‹_› (by rfl) ?_))))
  refine Z 2 J (C0 (d:=12) J (fun h1=>?_) (fun h1=>?_))
  ·try simp at h1
   have hfu':=hfu h1;refine Qu J (Z 1 J (Qu J (Z 1 J (Qu J (Fa Q1 J (Qu J (Ca fb150 J (isT_c T (FR 0 b []) A c en q b 4 _ hT (fun y hy=>Eu3 hy.2.1 hR.lt) ‹_› ‹_›) ?_)))))));rintro _ w3 ⟨rfl,hx3⟩;have hz3:=hx3.size;have hC:=hC.s0 hx3;have hR:=hR.u hx3;have hr:=hr.u hx3;have hO:=hO.u hx3;have hIs:=hIs.u hx3
   refine Zc 1 J (A4 J (fun h2=>?_) (fun h2=>?_))
   ·try simp at h2
    have hqn:=Bv0 h2;have hadv:=GoQ.adv hqn;have hlf:left T q.adv+1=left T q:=by unfold left;show _ - (q.next+1)+1=_;omega
    obtain ⟨g,rfl⟩:∃ k,g=k+1:=⟨g - 1,by omega⟩;have hcl:altL T en (g+1) q l=altL T en g (Aq9 T en g q.adv).2 (l++[(Aq9 T en g q.adv).1]):=by rw [altL,Ek1 ⟨h1,h2⟩]
    refine A7 (B2 (Qd (Z 2 J (Fa Q1 J (Fa Y2 J (Lb o3 J ‹_› (by rfl) ?_))))));refine Ad J J (by omega) (Z 1 J (Fa Q1 J (Fa Y2 J (Pe sz3 J ‹_› J J ?_))));intro w4 hs4 hx4 hR;have hr:=hr.q hx4 (by intro x hx hf;have hx:=Ek3.1 hx;have h1:=hf.1;have h2:=hf.2.1;omega);have hO:=hO.q hx4 (by intro x hx;simp at hx;left;omega);have hIs:=hIs.q hx4 (by intro x hx hf;have hx:=Ek3.1 hx;have h1:=hf.1;have h2:=hf.2.1;omega);refine Qc (Qb (Z 2 J (Ca fb149 J (hC0 g (by omega) q.adv b _ (by omega) hqn hqd ‹_› ‹_›) ?_)));rintro v7 w5 ⟨hx5,hR',hIv'⟩;have hz5:=hx5.size;have hr:=hr.q hx5 (by intro x hx hf;have hx:=Ek3.1 hx;have h1:=hf.1;have h2:=hf.2.1;omega);have hO:=hO.q hx5 (by intro x hx;simp at hx;left;omega);have hIs:=hIs.q hx5 (by intro x hx hf;have hx:=Ek3.1 hx;have h1:=hf.1;have h2:=hf.2.1;omega);clear hR;have hR:=hR';clear hR';have hIv:=hIv';clear hIv';obtain ⟨pv,_,hv7,_,_,_,_,_⟩:=hIv.span;subst hv7;have hgi:=(allQ T en g).cat q.adv hqn;rw [hcl] at hrr;generalize Aq9 T en g q.adv=m7 at*;have hll:(l++[m7.1]).length=l.length+1:=by simp
    have hge:=hgi.ge;have hge2:q.next+1≤m7.2.next:=hge;have hmle:=hgi.le;refine B5 J (B7 Am1 Tryz.underlying241 Cs2 J J J (by rfl)) ?_;intro b6 w6 hb6 hs6 hx6 hB6;have hC:=hC.step ((hx4.j hx5).j hx6) (by simp<;>omega);have hR:=hR.u hx6;have hr:=hr.u hx6;have hO:=hO.u hx6;have hIs:=hIs.u hx6;have hIv:=hIv.u hx6;refine G1 J el241 J J hO (Blk.rd (F:=fun _=>True) ‹_› J trivial) (by rfl) (by omega) (by omega) ?_;intro A' c' w7 hO7 hx7 hA';have hC:=hC.step hx7 (by intro x h;have:=hOb x h;exact .inr (by omega));have hR:=hR.q hx7 (by intro h;have:=hOb _ h;omega);have hr:=hr.q hx7 (by intro x hx hf;have:=hOb x hx;have h1:=hf.1;have h2:=hf.2.1;omega);have hIs:=hIs.q hx7 (by intro x hx hf;exact hf.2.2 hx);have hIv:=hIv.q hx7 (by intro x hx hf;have:=hOb x hx;have h1:=hf.1;have h2:=hf.2.1;omega)
    replace hO:=hO7
    refine Zc 1 J ⟨(g,m7.2,l++[m7.1],vs++[.pointer (some ⟨pv,0,none⟩)],A',c'),⟨rfl,(R0 J (by rw [hll])),trivial⟩,?_,?_⟩;refine ⟨hC,hr,hR,by rw [hll];exact hO,IsSyns.append ?_ ?_,hrr,fun _=>?_,(hgo.trans hadv).trans hgi,by omega,by omega,by omega⟩;exact hIv.mono (fun y hy _=>⟨by have:=hy.1;omega,by have:=hy.2.1;omega,X1 hA' (fun hm=>by have:=hOb y hm;have:=hy.1;omega) (by have:=hy.2.1;omega)⟩);exact hIs.mono (fun y hy _=>⟨hy.1,by have:=hy.2.1;omega,X1 hA' hy.2.2 (by have:=hy.2.1;omega)⟩);unfold left at*;omega;exact Er6 g
   ·try simp at h2
    refine Xb ⟨q,l,vs,A',c',sb J,?_⟩;exact ⟨hC,hR,hO,hIs.mono (fun y hy _=>⟨hy.1,by have:=hy.2.1;omega,hy.2.2⟩),by rw [hrr,Cq2 (by rw [h2];simp)],by omega,hl0⟩
  ·try simp at h1
   refine Qk J (Qk J (Qk J (Qk J (Zc 1 J (E4 J (Xb ⟨q,l,vs,A',c',sb J,?_⟩))))));exact ⟨hC,hR,hO,hIs,by rw [hrr,Cq2 (by intro h;exact h1 h.1)],by omega,hl0⟩
 rintro e9 w9 ⟨q,l,vs,A',c',hs9,hC,hR,hO,hIs,hrr,hll,hl0⟩;refine I2 _ hs9 ?_;clear hs9 e9
 try have hzw:=hC.size
 rw [hrr];refine Qd (Z 1 J (Ca fb151 J (many_c 5 l vs (FR w.heap.size w9.heap.size []) A' c' _ hl0 (by omega) (fun y hy=>by have:=hy.2.1;omega) (hO.rd (fun y h1 h2=>⟨h1,by omega,by simp⟩)) (hIs.mono (fun y hy _=>⟨hy.1,hy.2.1,by simp⟩))) ?_));rintro v8 w8 ⟨hx8,hV⟩;have hC:=hC.s0 hx8;have hR:=hR.u hx8;refine Zc 1 J (A6 (B4 J J ⟨hC,hR,?_⟩));exact hV.mono (fun y hy hyl=>⟨by rcases hy with hy|hy;exact hy.1;omega,hyl,by simp⟩)
theorem Bt4 (T:List Tok) (A:Option Addr) (c en:Nat) (hT:T.length≤1048576):∀ n f,f≤n→AltC T A c en f∧CatC T A c en f∧ItemC T A c en f∧Ej0 T A c en f
 |n,0,_=>⟨fun p b w h=>absurd h (by omega),fun p b w h=>absurd h (by omega),fun p x b w h=>absurd h (by omega),fun p x b w h=>absurd h (by omega)⟩
 |0,f+1,h=>absurd h (by omega)
 |n+1,f+1,h=>by
  have ih:=Bt4 T A c en hT n;exact ⟨palt_c T A c en f hT (fun g hg=>(ih g (by omega)).2.1),pcat_c T A c en f hT (fun g hg=>(ih g (by omega)).2.2.1),pitem_c T A c en f hT (ih f (by omega)).2.2.2,pgroup_c T A c en f hT (ih f (by omega)).1⟩
theorem Bi3 (L:List Nat):∀ (f:Nat) (p:Ps) (l:List Tok),l.length≤p.i→p.i≤L.length→(Ar6 L f p l).1.length≤L.length
 |0,p,l,h,hp=>by unfold Ar6;exact En6 h hp
 |f+1,p,l,h,hp=>by
  unfold Ar6
  split
  ·rename_i hlt
   have hf:=Bk1 (L:=L) (p:=p) hlt;dsimp only
   split
   ·exact El0 _
   ·rename_i he
    have:=hf.adv (by simpa using he);exact Bi3 L f _ _ (by simp;omega) hf.le
  ·exact En6 h hp
theorem Du9 (L:List Nat):(R7 L).1.length≤1048576:=by
 unfold R7
 split
 ·exact El0 _
 ·exact En6 (Bi3 L _ _ _ (El1 _) (El0 _)) (by omega)
theorem scanP_long (L:List Nat) (h:(R7 L).2.2=0):L.length≤1048576:=by
 unfold R7 at h
 split at h
 ·cases h
 ·omega
theorem parse_c (s:ByteArray) (w:World) (hL:Laid w):Calls P 94 #[.string s] w (Ret fun v w'=>Chg [] w w'∧∃ ad,v= .tuple #[.pointer ad,.int .i64 (M5 (B6 s)).2.1,.int .i64 (M5 (B6 s)).2.2]∧((M5 (B6 s)).2.2=0→IsSyn (FR w.heap.size w'.heap.size []) w' (M5 (B6 s)).1 (.pointer ad))):=by
 have hC:=A8 [] w;have hle:(B6 s).length=s.size:=E5 s;have hlen:=Du9 (B6 s);refine D4 Tryz.func94 J J (Qd (Zc 3 J (Qd (Z 1 J (Ca fb124 J (scan_c s _ ‹_›) ?_)))));rintro _ w1 ⟨A,c,rfl,hx1,hr'⟩;have hz1:=hx1.size;have hC:=hC.s0 hx1;have hr:=hr';clear hr';have hP:M5 (B6 s)=if (R7 (B6 s)).2.2≠0 then (default,(((R7 (B6 s)).2.1:Nat):Int),(R7 (B6 s)).2.2) else Ck5 (R7 (B6 s)).1 (B6 s).length:=rfl
 generalize R7 (B6 s)=t at*;rw [hle] at hP
 refine Zc 7 J (Qa (Qd (Zc 2 J (A4 J (fun h1=>?_) (fun h1=>?_)))))
 ·try simp at h1
  refine Qd (Zc 5 J (A6 (O9 J J J J ?_)));rw [hP,Ek1 h1];exact ⟨hC,none,rfl,fun h=>absurd h h1⟩
 ·try simp at h1
  rw [Ek0 (by simpa using h1)] at hP;have hr2:Rd (FR 0 w1.heap.size []) w1 10 A t.1.length (Ac1 t.1):=hr.mono (fun x _ hx=>⟨El0 _,hx,by simp⟩);obtain ⟨hA,_,_,_⟩:=Bt4 t.1 A c s.size hlen (5*t.1.length+5) (5*t.1.length+5) (El1 _);refine A7 (Qd (Z 2 J (C9 J (E9 Tryz.underlying9 J) (C9 J (B1 zr200 pl200 J (by rfl)) ?_))));refine C9 J (B1 zr202 pl202 J (by rfl)) ?_;refine B5 J (E1 J J) ?_;intro b2 w2 hb2 hs2 hx2 hB2;have hr2:=hr2.u hx2;refine Zc 1 J (Qd (Z 1 J (Ca fb125 J (hA ⟨0,0,0,0⟩ b2 _ (by unfold left;simp) (El0 _) (by decide) (by rw [hb2];assumption) ‹_›) ?_)));rintro v5 w3 ⟨hx3,hB2',hI'⟩;have hz3:=hx3.size;have hC:=hC.step (hx2.j hx3) (by simp<;>omega);have hr2:=hr2.q hx3 (by intro x hx hf;have hx:=Ek3.1 hx;have h1:=hf.1;have h2:=hf.2.1;omega);clear hB2;have hB2:=hB2';clear hB2';have hI:=hI';clear hI';obtain ⟨pn,_,hv5,_,_,_,_,_⟩:=hI.span;subst hv5;have hPT:Ck5 t.1 s.size=if (if okQ t.1 (Y3 t.1 s.size (5*t.1.length+5) ⟨0,0,0,0⟩).2 then (Y3 t.1 s.size (5*t.1.length+5) ⟨0,0,0,0⟩).2.fail (pkQ t.1 s.size (Y3 t.1 s.size (5*t.1.length+5) ⟨0,0,0,0⟩).2).src 4 else (Y3 t.1 s.size (5*t.1.length+5) ⟨0,0,0,0⟩).2).e≠0 then (default,(if okQ t.1 (Y3 t.1 s.size (5*t.1.length+5) ⟨0,0,0,0⟩).2 then (Y3 t.1 s.size (5*t.1.length+5) ⟨0,0,0,0⟩).2.fail (pkQ t.1 s.size (Y3 t.1 s.size (5*t.1.length+5) ⟨0,0,0,0⟩).2).src 4 else (Y3 t.1 s.size (5*t.1.length+5) ⟨0,0,0,0⟩).2).pl,(if okQ t.1 (Y3 t.1 s.size (5*t.1.length+5) ⟨0,0,0,0⟩).2 then (Y3 t.1 s.size (5*t.1.length+5) ⟨0,0,0,0⟩).2.fail (pkQ t.1 s.size (Y3 t.1 s.size (5*t.1.length+5) ⟨0,0,0,0⟩).2).src 4 else (Y3 t.1 s.size (5*t.1.length+5) ⟨0,0,0,0⟩).2).e) else ((Y3 t.1 s.size (5*t.1.length+5) ⟨0,0,0,0⟩).1,0,0):=rfl
  rw [hPT] at hP;generalize Y3 t.1 s.size (5*t.1.length+5) ⟨0,0,0,0⟩=m at*
  refine Zc 1 J (I3 (fun e9 wr=>Sub [(8,.pointer (some ⟨b2,0,none⟩)),(9,.pointer (some ⟨pn,0,none⟩))] e9∧Chg [] w wr∧Blk wr b2 (psC A t.1.length c s.size (if okQ t.1 m.2 then m.2.fail (pkQ t.1 s.size m.2).src 4 else m.2)) 202∧IsSyn (FR w.heap.size wr.heap.size []) wr m.1 (.pointer (some ⟨pn,0,none⟩))) ?_ ?_)
  ·refine Qd (Z 2 J (Fa Q1 J (Ca Ee0 J (Dx2 t.1 (FR 0 w1.heap.size []) A c s.size m.2 b2 _ hlen (fun y hy=>by have:=hy.2.1;omega) ‹_› ‹_›) ?_)));rintro _ w4 ⟨rfl,hx4⟩;have hz4:=hx4.size;refine Z 3 J (B5 J (B8 Z7 J) ?_);intro b5 w5 hb5 hs5 hx5 hB5;have hI:=hI.u (hx4.s0 hx5);refine Pe Z0 J ‹_› J J ?_;intro w6 hs6 hx6 hB5;have hC:=hC.step ((hx4.j hx5).j hx6) (by simp<;>omega);have hB2:=hB2.q ((hx4.j hx5).j hx6) (by simp<;>omega);have hI:=hI.q hx6 (by intro x hx hf;have hx:=Ek3.1 hx;have h1:=hf.1;have h2:=hf.2.1;omega)
   refine Zc 1 J (Qd (Zc 1 J (A4 J (fun h2=>?_) (fun h2=>?_))))
   ·try simp at h2
    refine Qb (Z 1 J (Fa Ao6 J (Lb o3 J ‹_› (by rfl) ?_)));refine Ca fb127 J (Ca0 A t.1.length c s.size m.2 b2 (pkQ t.1 s.size m.2).src 4 _ ‹_›) ?_;rintro _ w7 ⟨rfl,hx7,hB2'⟩;have hC:=hC.step hx7 (by simp;omega);have hI:=hI.q hx7 (by intro x hx hf;have hx:=Ek3.1 hx;have h1:=hf.1;have h2:=hf.2.1;omega);clear hB2;have hB2:=hB2';clear hB2';refine Qc ⟨(sb J),?_⟩;exact ⟨hC,by rw [Ek1 h2];exact hB2,hI.mono (fun y hy hyl=>⟨by have:=hy.1;omega,hyl,by simp⟩)⟩
   ·try simp at h2
    refine A7 ⟨(sb J),?_⟩;exact ⟨hC,by rw [Ek0 (by rw [h2];simp)];exact hB2,hI.mono (fun y hy hyl=>⟨by have:=hy.1;omega,hyl,by simp⟩)⟩
  rintro e9 w9 ⟨hs9,hC,hB2,hI⟩;refine I2 _ hs9 ?_;clear hs9 e9;generalize (if okQ t.1 m.2 then m.2.fail (pkQ t.1 s.size m.2).src 4 else m.2)=q at*;refine Qa (Qd (Z 2 J (Fa Aj2 J (Lb o32 J ‹_› (by rfl) ?_))))
  refine Zc 1 J (A4 J (fun h3=>?_) (fun h3=>?_))
  ·try simp at h3
   refine Qa (C8 (S:=[]) 10 [(0,0),(0,1),(0,2),(0,3),(0,4),(0,5),(0,6),(0,7),(0,8),(0,9),(2,10)] mo (by kernel_rfl) ?_);intro w8 hx8 hh8;have hC:=hC.s0 hx8;have hB2:=hB2.u hx8;refine Z 2 J (Fa Ed5 J (D6 J (B3 o3 J ‹_› (by simp;done) (by rfl)) ?_));refine Z 2 J (Fa Aj2 J (D6 J (B3 o32 J ‹_› (by simp;done) (by rfl)) ?_));refine Zc 3 J (A6 (O9 J J J J ?_));rw [hP,Ek1 h3];exact ⟨hC,none,rfl,fun h=>absurd h h3⟩
  ·try simp at h3
   refine A7 (Qd (Zc 4 J (A6 (O9 J J J J ?_))));rw [hP,Ek0 (by simpa using h3)];exact ⟨hC,_,rfl,fun _=>hI⟩
section
section
variable {P:Program} {n:Nat} {e:Env} {dst:Option Tmp} {t:TypeId} {p:String} {af:Array Edge} {g:Option (Nat × Bool)} {φ:World→Prop}
theorem Dr7 {τ τ' el:TypeId} {x y:Operand} {b:Option Addr} (hu:P.underlying τ=some (.pointer el)) (hx:ev e x=some (.pointer none)) (hy:ev e y=some (.pointer b)):Does P n e ⟨dst,.binOp .eql τ x y τ',t,p,af,g⟩ φ (.bool b.isNone):=
 N4 hx hy J fun w _=>by
  have h:∀ d:Nat,(Op.equalIn (d+1) τ (.pointer none) (.pointer b)).run P w= .ok b.isNone w:=fun d=>by simp [Op.equalIn,run_underlying hu]
  simp only [binOp];simp [Op.equal,Op.maxDepth,h 9999]
theorem I0 {τ τ' el:TypeId} {x y:Operand} {b:Option Addr} (hu:P.underlying τ=some (.pointer el)) (hx:ev e x=some (.pointer b)) (hy:ev e y=some (.pointer none)):Does P n e ⟨dst,.binOp .eql τ x y τ',t,p,af,g⟩ φ (.bool b.isNone):=
 N4 hx hy J fun w _=>by
  have h:∀ d:Nat,(Op.equalIn (d+1) τ (.pointer b) (.pointer none)).run P w= .ok b.isNone w:=fun d=>by cases b<;>simp [Op.equalIn,run_underlying hu]
  simp only [binOp];simp [Op.equal,Op.maxDepth,h 9999]
theorem Dr6 {τ τ' el:TypeId} {x y:Operand} {b:Option Addr} (hu:P.underlying τ=some (.pointer el)) (hx:ev e x=some (.pointer b)) (hy:ev e y=some (.pointer none)):Does P n e ⟨dst,.binOp .neq τ x y τ',t,p,af,g⟩ φ (.bool !b.isNone):=
 N4 hx hy J fun w _=>by
  have h:∀ d:Nat,(Op.equalIn (d+1) τ (.pointer b) (.pointer none)).run P w= .ok b.isNone w:=fun d=>by cases b<;>simp [Op.equalIn,run_underlying hu]
  simp only [binOp];simp [Op.equal,Op.maxDepth,h 9999]
end
def fstB (bs:Nat→Bool) (n:Nat):Int:=match (List.range n).find? bs with|some k=>(k:Int)|none=> -1
theorem Cc5 {bs:Nat→Bool} {n k:Nat} (hk:k<n) (h1:bs k=true) (h0:∀ j,j<k→bs j=false):fstB bs n=k:=by
 unfold fstB
 have:(List.range n).find? bs=some k:=by
  rw [List.find?_range_eq_some];exact ⟨h1,by simpa using hk,fun j hj=>by rw [h0 j hj];rfl⟩
 rw [this]
theorem Cw0 {bs:Nat→Bool} {n:Nat} (h0:∀ j,j<n→bs j=false):fstB bs n= -1:=by
 unfold fstB
 have:(List.range n).find? bs=none:=by
  rw [List.find?_range_eq_none];intro j hj;rw [h0 j hj];rfl
 rw [this]
theorem Cc6 (bs:Nat→Bool) (n:Nat):decide (0≤fstB bs n)=(List.range n).any bs:=by
 unfold fstB
 cases h:(List.range n).find? bs with
 |none=>rw [List.find?_eq_none] at h;simp;intro x hx;simpa using h x (Em9.2 hx)
 |some k=>have h1:=List.find?_some h;have h2:=List.mem_of_find?_eq_some h;simp;exact ⟨k,by simpa using h2,h1⟩
theorem idxfN_c (G:FuncId) (fi cp:Array Value) (hb:D3 P G=true) (vs:List Value) (bs:Nat→Bool) (F:Nat→Prop) (A:Option Addr) (n c:Nat) (w:World) (hn:n≤2000000) (hF:∀ b,F b→b<w.heap.size) (hr:Rd F w 1 A n vs)
  (hcall:∀ k v w',k<n→vs[k]?=some v→Chg [] w w'→Calls P G (fi++ #[v]++cp) w' (Ret fun u w2=>u= .bool (bs k)∧Chg [] w' w2)):
  Calls P 234 #[.slice A n c,.func (.func G) fi cp] w (Ret fun u w'=>u= .int .i64 (fstB bs n)∧Chg [] w w'):=by
 have hC:=A8 [] w;have hlen:vs.length=n:=by have:=hr.len;omega
 refine D4 Tryz.func234 J J (Qd (Zc 1 J (Qa (Qd (Z 1 J (Ln Tryz.underlying241 J (Zc 1 J (B2 (D8 (σ:=Nat) (fun k=>[(0,.slice A n c),(1,.func (.func G) fi cp),(7,.int .i64 n),(8,.int .i64 k)]) (fun k wr=>Chg [] w wr∧Rd F wr 1 A n vs∧k≤n∧(∀ j,j<k→bs j=false)) (fun k wr=>n - k) 0 (sb J) ?_ ?_)))))))))
 ·exact ⟨hC,hr,El0 _,fun j hj=>absurd hj (by omega)⟩
 rintro k w9 ⟨hC,hr,hk,h0⟩
 refine Qd (Zc 1 J (Qa (A4 J (fun h1=>?_) (fun h1=>?_))))
 ·try simp at h1
  have hkn:k<n:=by omega
  obtain ⟨v,hv⟩:∃ v,vs[k]?=some v:=⟨_,Ek4 (by omega)⟩;obtain ⟨g,off,rfl,_,_,_⟩:=hr.at_ (by omega);refine A7 (Qa (B2 (Qd (Zc 2 J (Qd (Z 3 J (C9 J (B0 Am1 J J (by omega) (by omega)) (Lc Bb4 J (hr.one hv).2 (P0 J (O0 J hb J) (hcall k v _ hkn hv ‹_›) ?_)))))))));rintro _ w1 ⟨rfl,hx1⟩;have hC:=hC.s0 hx1;have hr:=hr.u hx1
  refine Qc (A4 J (fun h2=>?_) (fun h2=>?_))
  ·try simp at h2
   exact Qd (Zc 2 J (A6 (B4 J J ⟨J4 (Cc5 hkn h2 h0).symm,hC⟩)))
  ·try simp at h2
   refine A7 (Qb (Ad J J (by omega) (Zc 1 J ⟨k+1,sb J,?_,?_⟩)));refine ⟨hC,hr,hkn,fun j hj=>?_⟩
   by_cases hjk:j=k
   ·rw [hjk];exact h2
   ·exact h0 j (by omega)
   omega
 ·try simp at h1
  exact Xb (Qd (Zc 1 J (A6 (B4 J J ⟨J4 (Cw0 (fun j hj=>h0 j (by omega))).symm,hC⟩))))
theorem anyN_c (G:FuncId) (fi cp:Array Value) (hb:D3 P G=true) (vs:List Value) (bs:Nat→Bool) (F:Nat→Prop) (A:Option Addr) (n c:Nat) (w:World) (hn:n≤2000000) (hF:∀ b,F b→b<w.heap.size) (hr:Rd F w 1 A n vs)
  (hcall:∀ k v w',k<n→vs[k]?=some v→Chg [] w w'→Calls P G (fi++ #[v]++cp) w' (Ret fun u w2=>u= .bool (bs k)∧Chg [] w' w2)):
  Calls P 212 #[.slice A n c,.func (.func G) fi cp] w (Ret fun u w'=>u= .bool ((List.range n).any bs)∧Chg [] w w'):=by
 have hC:=A8 [] w;refine D4 Tryz.func212 J J (Qd (Zc 1 J (Qd (Z 2 J (Ca fb234 J (idxfN_c G fi cp hb vs bs F A n c _ hn hF hr hcall) ?_)))));rintro _ w1 ⟨rfl,hx1⟩;have hC:=hC.s0 hx1;exact Zc 2 J (A6 (B4 J J ⟨H5 (by rw [← Cc6,El4];simp [Aa4]),hC⟩))
end
theorem idxfI_c (G:FuncId) (fi cp:Array Value) (hb:D3 P G=true) (vs:List Value) (bs:Nat→Bool) (F:Nat→Prop) (A:Option Addr) (n c:Nat) (w:World) (hn:n≤2000000) (hF:∀ b,F b→b<w.heap.size) (hr:Rd F w 1 A n vs)
  (hcall:∀ k v w',k<n→vs[k]?=some v→Chg [] w w'→Calls P G (fi++ #[v]++cp) w' (Ret fun u w2=>u= .bool (bs k)∧Chg [] w' w2)):
  Calls P 112 #[.slice A n c,.func (.func G) fi cp] w (Ret fun u w'=>u= .int .i64 (fstB bs n)∧Chg [] w w'):=by
 have hC:=A8 [] w;have hlen:vs.length=n:=by have:=hr.len;omega
 refine D4 Tryz.func112 J J (Qd (Zc 1 J (Qa (Qd (Z 1 J (Ln Tryz.underlying24 J (Zc 1 J (B2 (D8 (σ:=Nat) (fun k=>[(0,.slice A n c),(1,.func (.func G) fi cp),(7,.int .i64 n),(8,.int .i64 k)]) (fun k wr=>Chg [] w wr∧Rd F wr 1 A n vs∧k≤n∧(∀ j,j<k→bs j=false)) (fun k wr=>n - k) 0 (sb J) ?_ ?_)))))))))
 ·exact ⟨hC,hr,El0 _,fun j hj=>absurd hj (by omega)⟩
 rintro k w9 ⟨hC,hr,hk,h0⟩
 refine Qd (Zc 1 J (Qa (A4 J (fun h1=>?_) (fun h1=>?_))))
 ·try simp at h1
  have hkn:k<n:=by omega
  obtain ⟨v,hv⟩:∃ v,vs[k]?=some v:=⟨_,Ek4 (by omega)⟩;obtain ⟨g,off,rfl,_,_,_⟩:=hr.at_ (by omega);refine A7 (Qa (B2 (Qd (Zc 2 J (Qd (Z 3 J (C9 J (B0 T8 J J (by omega) (by omega)) (Lc o3 J (hr.one hv).2 (P0 J (O0 J hb J) (hcall k v _ hkn hv ‹_›) ?_)))))))));rintro _ w1 ⟨rfl,hx1⟩;have hC:=hC.s0 hx1;have hr:=hr.u hx1
  refine Qc (A4 J (fun h2=>?_) (fun h2=>?_))
  ·try simp at h2
   exact Qd (Zc 2 J (A6 (B4 J J ⟨J4 (Cc5 hkn h2 h0).symm,hC⟩)))
  ·try simp at h2
   refine A7 (Qb (Ad J J (by omega) (Zc 1 J ⟨k+1,sb J,?_,?_⟩)));refine ⟨hC,hr,hkn,fun j hj=>?_⟩
   by_cases hjk:j=k
   ·rw [hjk];exact h2
   ·exact h0 j (by omega)
   omega
 ·try simp at h1
  exact Xb (Qd (Zc 1 J (A6 (B4 J J ⟨J4 (Cw0 (fun j hj=>h0 j (by omega))).symm,hC⟩))))
theorem anyI_c (G:FuncId) (fi cp:Array Value) (hb:D3 P G=true) (vs:List Value) (bs:Nat→Bool) (F:Nat→Prop) (A:Option Addr) (n c:Nat) (w:World) (hn:n≤2000000) (hF:∀ b,F b→b<w.heap.size) (hr:Rd F w 1 A n vs)
  (hcall:∀ k v w',k<n→vs[k]?=some v→Chg [] w w'→Calls P G (fi++ #[v]++cp) w' (Ret fun u w2=>u= .bool (bs k)∧Chg [] w' w2)):
  Calls P 81 #[.slice A n c,.func (.func G) fi cp] w (Ret fun u w'=>u= .bool ((List.range n).any bs)∧Chg [] w w'):=by
 have hC:=A8 [] w;refine D4 Tryz.func81 J J (Qd (Zc 1 J (Qd (Z 2 J (Ca fb112 J (idxfI_c G fi cp hb vs bs F A n c _ hn hF hr hcall) ?_)))));rintro _ w1 ⟨rfl,hx1⟩;have hC:=hC.s0 hx1;exact Zc 2 J (A6 (B4 J J ⟨H5 (by rw [← Cc6,El4];simp [Aa4]),hC⟩))
theorem idxI_c (vs:List Int) (x:Int) (F:Nat→Prop) (A:Option Addr) (n c:Nat) (w:World) (hn:n≤2000000) (hF:∀ b,F b→b<w.heap.size) (hr:Rd F w 1 A n (I8 vs)):
  Calls P 238 #[.slice A n c,.int .i64 x] w (Ret fun u w'=>u= .int .i64 (fstB (fun k=>decide (vs.getD k 0=x)) n)∧Chg [] w w'):=by
 have hC:=A8 [] w;have hlen:vs.length=n:=by have:=hr.len;rw [G0] at this;omega
 refine D4 Tryz.func238 J J (Qd (Zc 1 J (Qa (Qd (Z 1 J (Ln Tryz.underlying24 J (Zc 1 J (B2 (D8 (σ:=Nat) (fun k=>[(0,.slice A n c),(1,.int .i64 x),(7,.int .i64 n),(8,.int .i64 k)]) (fun k wr=>Chg [] w wr∧Rd F wr 1 A n (I8 vs)∧k≤n∧(∀ j,j<k→¬ vs.getD j 0=x)) (fun k wr=>n - k) 0 (sb J) ?_ ?_)))))))))
 ·exact ⟨hC,hr,El0 _,fun j hj=>absurd hj (by omega)⟩
 rintro k w9 ⟨hC,hr,hk,h0⟩
 refine Qd (Zc 1 J (Qa (A4 J (fun h1=>?_) (fun h1=>?_))))
 ·try simp at h1
  have hkn:k<n:=by omega
  obtain ⟨g,off,rfl,_,_,_⟩:=hr.at_ (by omega)
  refine A7 (Qa (B2 (Qd (Zc 2 J (Qd (Z 3 J (C9 J (B0 T8 J J (by omega) (by omega)) (Lc o3 J (hr.one (J6 vs k (by omega))).2 (Zc 1 J (A4 J (fun h2=>?_) (fun h2=>?_)))))))))))
  ·try simp at h2
   exact Qd (Zc 2 J (A6 (B4 J J ⟨J4 (Cc5 hkn (El2 h2.symm) (fun j hj=>El3 (h0 j hj))).symm,hC⟩)))
  ·try simp at h2
   refine A7 (Qb (Ad J J (by omega) (Zc 1 J ⟨k+1,sb J,?_,?_⟩)));refine ⟨hC,hr,hkn,fun j hj=>?_⟩
   by_cases hjk:j=k
   ·rw [hjk];exact fun h=>h2 h.symm
   ·exact h0 j (by omega)
   omega
 ·try simp at h1
  exact Xb (Qd (Zc 1 J (A6 (B4 J J ⟨J4 (Cw0 (fun j hj=>El3 (h0 j (by omega)))).symm,hC⟩))))
theorem hasI_c (vs:List Int) (x:Int) (F:Nat→Prop) (A:Option Addr) (n c:Nat) (w:World) (hn:n≤2000000) (hF:∀ b,F b→b<w.heap.size) (hr:Rd F w 1 A n (I8 vs)):
  Calls P 232 #[.slice A n c,.int .i64 x] w (Ret fun u w'=>u= .bool (vs.contains x)∧Chg [] w w'):=by
 have hC:=A8 [] w;have hlen:vs.length=n:=by have:=hr.len;rw [G0] at this;omega
 refine D4 Tryz.func232 J J (Qd (Zc 1 J (Qd (Z 2 J (Ca fb238 J (idxI_c vs x F A n c _ hn hF hr) ?_)))));rintro _ w1 ⟨rfl,hx1⟩;have hC:=hC.s0 hx1;refine Zc 2 J (A6 (B4 J J ⟨H5 ?_,hC⟩));rw [El4];have:=Cc6 (fun k=>decide (vs.getD k 0=x)) n;rw [El4,El7] at this;rw [cmpB_geq,this,Er1,List.contains_iff_mem]
 constructor
 ·rintro ⟨k,hk,h⟩;have hk:=Em9.1 hk;rw [El7] at h;rw [← h];exact G9 vs 0 k (by omega)
 ·intro h;obtain ⟨k,hk,hx⟩:=List.getElem_of_mem h;exact ⟨k,Em9.2 (by omega),El2 (by rw [Ek2,Ek4 hk];exact hx)⟩
theorem idxP_c (vs:List Value) (F:Nat→Prop) (A:Option Addr) (n c:Nat) (w:World) (hn:n≤2000000) (hF:∀ b,F b→b<w.heap.size) (hr:Rd F w 1 A n vs) (hv:∀ (k:Nat) (v:Value),vs[k]?=some v→∃ a,v= .pointer (some a)):
  Calls P 237 #[.slice A n c,.pointer none] w (Ret fun u w'=>u= .int .i64 (-1)∧Chg [] w w'):=by
 have hC:=A8 [] w;have hlen:vs.length=n:=by have:=hr.len;omega
 refine D4 Tryz.func237 J J (Qd (Zc 1 J (Qa (Qd (Z 1 J (Ln Tryz.underlying241 J (Zc 1 J (B2 (D8 (σ:=Nat) (fun k=>[(0,.slice A n c),(1,.pointer none),(7,.int .i64 n),(8,.int .i64 k)]) (fun k wr=>Chg [] w wr∧Rd F wr 1 A n vs∧k≤n) (fun k wr=>n - k) 0 (sb J) ?_ ?_)))))))))
 ·exact ⟨hC,hr,El0 _⟩
 rintro k w9 ⟨hC,hr,hk⟩
 refine Qd (Zc 1 J (Qa (A4 J (fun h1=>?_) (fun h1=>?_))))
 ·try simp at h1
  have hkn:k<n:=by omega
  obtain ⟨v,hvk⟩:∃ v,vs[k]?=some v:=⟨_,Ek4 (by omega)⟩;obtain ⟨a,rfl⟩:=hv k v hvk;obtain ⟨g,off,rfl,_,_,_⟩:=hr.at_ (by omega);refine A7 (Qa (B2 (Qd (Zc 2 J (Qd (Z 3 J (C9 J (B0 Am1 J J (by omega) (by omega)) (Lc Bb4 J (hr.one hvk).2 (C9 J (Dr7 Tryz.underlying149 J J) (Qc (E4 (rfl) (A7 (Qb (Ad J J (by omega) (Zc 1 J ⟨k+1,sb J,?_,?_⟩)))))))))))))));exact ⟨hC,hr,hkn⟩;omega
 ·try simp at h1
  exact Xb (Qd (Zc 1 J (A6 (B4 J J ⟨rfl,hC⟩))))
theorem hasP_c (vs:List Value) (F:Nat→Prop) (A:Option Addr) (n c:Nat) (w:World) (hn:n≤2000000) (hF:∀ b,F b→b<w.heap.size) (hr:Rd F w 1 A n vs) (hv:∀ (k:Nat) (v:Value),vs[k]?=some v→∃ a,v= .pointer (some a)):
  Calls P 228 #[.slice A n c,.pointer none] w (Ret fun u w'=>u= .bool false∧Chg [] w w'):=by
 have hC:=A8 [] w;refine D4 Tryz.func228 J J (Qd (Zc 1 J (Qd (Z 2 J (Ca fb237 J (idxP_c vs F A n c _ hn hF hr hv) ?_)))));rintro _ w1 ⟨rfl,hx1⟩;have hC:=hC.s0 hx1;exact Zc 2 J (A6 (B4 J J ⟨rfl,hC⟩))
section
theorem ag68:aggB P 68=false:=by kernel_rfl
theorem kn68':Ay4 P 68=true:=by kernel_rfl
theorem cel68:P.cellsOf 68=1:=by kernel_rfl
theorem inf68:(P.info? 68).isSome=true:=by kernel_rfl
theorem grd70:P.eqGuardType P.depth 70=false:=by kernel_rfl
theorem Bd6 (cs:List Value) (i:Nat) (v:Value) (h:cs[i]?=some v) (w:World):(part 68 cs.toArray i).run P w= .ok v w:=by
 simp [part,Ag1 kn68',ag68,h]
theorem eq68 (d:Nat) (a b:Int) (w:World):(Op.equalIn (d+1) 68 (.int .u64 a) (.int .u64 b)).run P w= .ok (a==b) w:=by
 simp [Op.equalIn,run_underlying Tryz.underlying68]
theorem Ee3 (d s t:Nat) (hs:L4 s) (ht:L4 t) (w:World):(Op.equalIn (d+2) 70 (.agg (C4 s).toArray) (.agg (C4 t).toArray)).run P w= .ok (decide (s=t)) w:=by
 obtain ⟨i,hi⟩:=Ep6.1 inf68;rw [run_equalIn_array w (d+1) _ _ Tryz.underlying70 hi,cel68];have hst:s=t↔∀ k,k<4→wd s k=wd t k:=⟨fun h=>by rw [h];intros;rfl,fun h=>Du5 hs ht h⟩;have h4:List.range 4=[0,1,2,3]:=rfl;rw [h4];have qs0:=Bd6 (C4 s) 0 (.int .u64 (wd s 0)) J;have qs1:=Bd6 (C4 s) 1 (.int .u64 (wd s 1)) J;have qs2:=Bd6 (C4 s) 2 (.int .u64 (wd s 2)) J;have qs3:=Bd6 (C4 s) 3 (.int .u64 (wd s 3)) J;have qt0:=Bd6 (C4 t) 0 (.int .u64 (wd t 0)) J;have qt1:=Bd6 (C4 t) 1 (.int .u64 (wd t 1)) J;have qt2:=Bd6 (C4 t) 2 (.int .u64 (wd t 2)) J;have qt3:=Bd6 (C4 t) 3 (.int .u64 (wd t 3)) J;simp only [Op.eqItems,Sem.run_bind,En8,qs0,qt0,eq68,Result.andThen_ok]
 by_cases h0:wd s 0=wd t 0
 ·by_cases h1:wd s 1=wd t 1
  ·by_cases h2:wd s 2=wd t 2
   ·by_cases h3:wd s 3=wd t 3
    ·have:s=t:=hst.2 (fun k hk=>by
      rcases (by omega:k=0∨k=1∨k=2∨k=3) with rfl|rfl|rfl|rfl<;>assumption)
     simp [qs1,qs2,qs3,qt1,qt2,qt3,eq68,h0,h1,h2,h3,this]
    ·have:¬ s=t:=fun h=>h3 (by rw [h])
     simp [qs1,qs2,qs3,qt1,qt2,qt3,eq68,h0,h1,h2,h3,this]
   ·have:¬ s=t:=fun h=>h2 (by rw [h])
    simp [qs1,qs2,qs3,qt1,qt2,qt3,eq68,h0,h1,h2,this]
  ·have:¬ s=t:=fun h=>h1 (by rw [h])
   simp [qs1,qs2,qs3,qt1,qt2,qt3,eq68,h0,h1,this]
 ·have:¬ s=t:=fun h=>h0 (by rw [h])
  simp [h0,this]
section
variable {n:Nat} {e:Env} {dst:Option Tmp} {t:TypeId} {p:String} {af:Array Edge} {g:Option (Nat × Bool)} {φ:World→Prop}
theorem Dr5 {τ':TypeId} {x y:Operand} {s u:Nat} (hs:L4 s) (hu:L4 u) (hx:ev e x=some (.agg (C4 s).toArray)) (hy:ev e y=some (.agg (C4 u).toArray)):Does P n e ⟨dst,.binOp .neq 70 x y τ',t,p,af,g⟩ φ (.bool !decide (s=u)):=fun a w ha hw=>by
 have h:=Ee3 9998 s u hs hu w
 have hgd:(eqGuard .neq 70 x y (.agg (C4 s).toArray) (.agg (C4 u).toArray)).run P w= .ok () w:=by
  simp [eqGuard,run_program,grd70]
 simp only [execOp,ha.ev hx,ha.ev hy,Sem.run_bind,hgd,Result.andThen_ok,binOp,Op.equal,Op.maxDepth];simp [h]
end
end
end Go.Clt
section
namespace Go.Clt
open Go
theorem Ch4 {n:Nat} {ops:Array Oper} {e:Env} {a:Act} {j d:Nat} {c':Bool} (ha:Rep n a e) (hj:(ops[j]?).bind (·.dst)=some d) (hd:Nat.blt d n=true) (hv:lk e d=some undef) {o:Oper} (ho:o.guard=some (j,c')):Region.wanted o (yielded ops a.tmps)=false:=by
 have h1:=ha.get d _ hv;have hlt:d<a.tmps.size:=by rw [ha.size];simpa [Nat.blt_eq] using hd
 have h2:a.tmps[d]?=some undef:=by
  rw [Et0 hlt];rw [Eo3,Et0 hlt] at h1
  simpa using h1
 unfold Region.wanted;rw [ho];simp only [yielded,hj,Option.bind_some,h2,undef]
 cases c'<;>rfl
theorem H1 {P:Program} {n:Nat} {ops:Array Oper} {S:World→Prop} {N:Env→World→Prop} {B:Nat→Env→World→Prop} {R:Env→World→Prop} {e:Env} {w:World} {rest:List (Nat × Oper)} {op:Op} {t:TypeId} {p:String} {af:Array Edge} {k j d x:Nat} {c':Bool}
  (hj:(ops[j]?).bind (·.dst)=some d) (hd:Nat.blt d n=true) (hv:lk e d=some undef) (hx:Nat.blt x n=true) (hk:k=1→S w) (h:EP P n ops S N B R rest ((x,undef)::e) w):
  EP P n ops S N B R ((k,⟨some x,op,t,p,af,some (j,c')⟩)::rest) e w:=fun a ha=>by
 have hw:Region.wanted ⟨some x,op,t,p,af,some (j,c')⟩ (yielded ops a.tmps)=false:=Ch4 ha hj hd hv J;have h1:=h _ (ha.put x undef hx)
 match k,hk with
 |0,_=>simp only [N3];exact ⟨undef,.inr ⟨hw,rfl⟩,h1⟩
 |1,hk=>simp only [N3,wpO];rw [Ek0 (by rw [hw];simp)];exact ⟨hk rfl,h1⟩
 |k+2,_=>simp only [N3,wpO];rw [Ek0 (by rw [hw];simp)];exact h1
end Go.Clt
end
namespace Go.Clt
open Go Go.RowKit Go.Proofs
def Ae2 (t:Syn):Bool:=decide (t.kind=2)||decide (t.kind=3)
def Bj4 (t:Syn):Bool:=decide (t.mn=0) && (decide (t.mx=0) && !t.lz)
def S0 (t:Syn):Bool:=decide (0≤t.mn) && (decide (t.mn≤1000) && (decide (t.mx= -1)||(decide (t.mn≤t.mx) && decide (t.mx≤1000))))
def notK (ks:List Int) (l:List Syn):Bool:= !((List.range l.length).any fun k=>ks.contains (l.getD k default).kind)
def Ad4 (t:Syn):Bool:=
 if t.kind=0∨t.kind=1 then decide (t.l.length=0)
 else if t.kind=2∨t.kind=3 then decide (t.l.length=1)
 else if t.kind=4 then decide (1<t.l.length) && notK [4,0,5] t.l
 else if t.kind=5 then decide (1<t.l.length) && notK [5] t.l
 else if t.kind=6 then decide (t.l.length=1) && (S0 t && (decide ((t.l.getD 0 default).kind=1)||Ae2 (t.l.getD 0 default)))
 else false
def Au2 (t:Syn):Bool:=(decide (t.kind=1)||decide (t.set=0)) && ((decide (t.kind=6)||Bj4 t) && Ad4 t)
theorem IsSyn.open {F:Nat→Prop} {w:World} {t:Syn} {v:Value} (h:IsSyn F w t v):∃ p A c vs,v= .pointer (some ⟨p,0,none⟩)∧F p∧Blk w p (Bk3 t.kind t.set t.mn t.mx t.lz (.slice A t.l.length c) t.a t.b) 254∧Rd F w 1 A t.l.length vs∧IsSyns F w t.l vs:=by
 cases t with
 |node k s mn mx lz l a b=>exact h
theorem Cn0 (t:Syn) (v:Value) (F:Nat→Prop) (w:World) (hI:IsSyn F w t v):Calls P 214 #[v] w (Ret fun u w'=>u= .bool (Ae2 t)∧Chg [] w w'):=by
 have hC:=A8 [] w;obtain ⟨q,A,c,vs,rfl,_,hB0,_,_⟩:=hI.open;refine D4 Tryz.func214 J J (Qd (Zc 1 J (Qd (Z 2 J (Fa Af2 J (Lb o3 J ‹_› (by rfl) ?_))))))
 refine Z 2 J (C0 (d:=8) J (fun h1=>?_) (fun h1=>?_))
 ·try simp at h1
  exact Qk J (Qk J (Qk J (Qk J (Qk J (Zc 2 J (A6 (B4 J J ⟨H5 (by unfold Ae2;rw [El2 h1];rfl),hC⟩)))))))
 ·try simp at h1
  refine Qu J (Z 1 J (Qu J (Z 1 J (Qu J (Fa Af2 J (Qu J (Lb o3 J ‹_› (by rfl) ?_)))))));exact Qu J (Zc 3 J (A6 (B4 J J ⟨H5 (by unfold Ae2;rw [El3 h1,Er3,El4,cmpB_eql,El7]),hC⟩)))
theorem Dw9 (t:Syn) (v:Value) (F:Nat→Prop) (w:World) (hI:IsSyn F w t v):Calls P 229 #[v] w (Ret fun u w'=>u= .bool (Bj4 t)∧Chg [] w w'):=by
 have hC:=A8 [] w;obtain ⟨q,A,c,vs,rfl,_,hB0,_,_⟩:=hI.open;refine D4 Tryz.func229 J J (Qd (Zc 1 J (Qd (Z 2 J (Fa Af1 J (Lb o3 J ‹_› (by rfl) ?_))))))
 refine Z 2 J (C0 (d:=8) J (fun h1=>?_) (fun h1=>?_))
 ·try simp at h1
  refine Qu J (Z 1 J (Qu J (Z 1 J (Qu J (Fa Aj1 J (Qu J (Lb o3 J ‹_› (by rfl) ?_)))))))
  refine Qu J (Z 3 J (C0 (d:=15) J (fun h2=>?_) (fun h2=>?_)))
  ·try simp at h2
   refine Qu J (Z 1 J (Qu J (Z 1 J (Qu J (Fa Cw3 J (Qu J (Lb o4 J ‹_› (by rfl) ?_)))))));exact Qu J (Zc 3 J (A6 (B4 J J ⟨H5 (by unfold Bj4;rw [El2 h1,El2 h2];rfl),hC⟩)))
  ·try simp at h2
   exact Qk J (Qk J (Qk J (Qk J (Qk J (Zc 2 J (A6 (B4 J J ⟨H5 (by unfold Bj4;rw [El3 h2];simp),hC⟩)))))))
 ·try simp at h1
  exact Qk J (Qk J (Qk J (Qk J (Qk J (Z 2 J (Qk J (Qk J (Qk J (Qk J (Qk J (Zc 2 J (A6 (B4 J J ⟨H5 (by unfold Bj4;rw [El3 h1];rfl),hC⟩)))))))))))))
theorem Ef8 (t:Syn) (v:Value) (F:Nat→Prop) (w:World) (hI:IsSyn F w t v):Calls P 233 #[v] w (Ret fun u w'=>u= .bool (S0 t)∧Chg [] w w'):=by
 have hC:=A8 [] w;obtain ⟨q,A,c,vs,rfl,_,hB0,_,_⟩:=hI.open;refine D4 Tryz.func233 J J (Qd (Zc 1 J (Qa (C8 (S:=[]) 27 [(0,0),(0,1),(0,2),(0,3),(0,4),(0,5),(0,6),(0,7),(0,8),(0,9),(0,10),(0,11),(0,12),(0,13),(0,14),(0,15),(0,16),(0,17),(0,18),(0,19),(0,20),(0,21),(0,22),(0,23),(0,24),(0,25),(0,26),(2,27),(2,28),(2,29),(2,30),(2,31),(2,32),(2,33),(2,34),(2,35),(2,36),(2,37)] mo (by kernel_rfl) ?_))));intro w1 hx1 hh1;have hC:=hC.s0 hx1;have hB0:=hB0.u hx1;refine Z 2 J (Fa Af1 J (D6 J (B3 o3 J ‹_› (by simp;done) (by rfl)) ?_))
 refine Z 2 J (C0 (d:=8) J (fun h1=>?_) (fun h1=>?_))
 ·try simp at h1
  refine Qu J (Z 1 J (Qu J (Z 1 J (Qu J (Fa Af1 J (Qu J (D6 J (B3 o3 J ‹_› (by simp;done) (by rfl)) ?_)))))))
  refine Qu J (Z 3 J (C0 (d:=15) J (fun h2=>?_) (fun h2=>?_)))
  ·try simp at h2
   refine Qu J (Z 1 J (Qu J (Z 1 J (Qu J (Fa Aj1 J (Qu J (D6 J (B3 o3 J ‹_› (by simp;done) (by rfl)) ?_)))))))
   refine Qu J (Z 1 J (Qu J (Z 1 J (C0 (d:=21) J (fun h3=>?_) (fun h3=>?_)))))
   ·try simp at h3
    refine Qk J (Qk J (Qk J (Qk J (Qk J (Qk J (Qk J (Qk J (Qk J (Qk J (H1 J J J J (fun h=>by cases h) ?_))))))))));refine H1 J J J J (fun h=>by cases h) ?_;refine H1 J J J J (fun h=>by cases h) ?_;refine H1 J J J J (fun h=>by cases h) ?_;refine H1 J J J J (fun h=>by cases h) ?_;exact Qk J (Qu J (Zc 3 J (A6 (B4 J J ⟨H5 (by unfold S0;rw [El2 h1,El2 h2,El2 h3];rfl),hC⟩))))
   ·try simp at h3
    refine Qu J (Z 1 J (Qu J (Z 1 J (Qu J (Fa Aj1 J (Qu J (D6 J (B3 o3 J ‹_› (by simp;done) (by rfl)) ?_)))))));refine Qu J (Z 1 J (Qu J (Z 1 J (Qu J (Fa Af1 J (Qu J (D6 J (B3 o3 J ‹_› (by simp;done) (by rfl)) ?_)))))))
    refine Qu J (Z 1 J (Qu J (Z 1 J (C0 (d:=31) J (fun h4=>?_) (fun h4=>?_)))))
    ·try simp at h4
     refine Qu J (Z 1 J (Qu J (Z 1 J (Qu J (Fa Aj1 J (Qu J (Lb o3 J ‹_› (by rfl) ?_)))))));exact Qu J (Z 1 J (Qu J (Z 1 J (Qu J (Zc 3 J (A6 (B4 J J ⟨H5 (by unfold S0;rw [El2 h1,El2 h2,El3 h3,El2 h4,Eu5,Eu5,Er3,Eu5,El4,cmpB_leq,El7]),hC⟩)))))))
    ·try simp at h4
     exact Qk J (Qk J (Qk J (Qk J (Qk J (Qu J (Z 1 J (Qu J (Zc 3 J (A6 (B4 J J ⟨H5 (by unfold S0;rw [El2 h1,El2 h2,El3 h3,El3 (by omega:¬ t.mn≤t.mx)];rfl),hC⟩))))))))))
  ·try simp at h2
   refine Qk J (Qk J (Qk J (Qk J (Qk J (Qk J (H1 J J J J (fun h=>by cases h) ?_))))));refine H1 J J J J (fun h=>by cases h) ?_;refine H1 J J J J (fun h=>by cases h) ?_;refine H1 J J J J (fun h=>by cases h) ?_;refine H1 J J J J (fun h=>by cases h) ?_;refine H1 J J J J (fun h=>by cases h) ?_;refine H1 J J J J (fun h=>by cases h) ?_;refine H1 J J J J (fun h=>by cases h) ?_;refine H1 J J J J (fun h=>by cases h) ?_;refine H1 J J J J (fun h=>by cases h) ?_;refine H1 J J J J (fun h=>by cases h) ?_;refine H1 J J J J (fun h=>by cases h) ?_;refine H1 J J J J (fun h=>by cases h) ?_;refine H1 J J J J (fun h=>by cases h) ?_;refine H1 J J J J (fun h=>by cases h) ?_;refine H1 J J J J (fun h=>by cases h) ?_;exact Qk J (Zc 2 J (A6 (B4 J J ⟨H5 (by unfold S0;rw [El3 (by omega:¬ t.mn≤1000)];simp),hC⟩)))
 ·try simp at h1
  refine Qk J (Qk J (Qk J (Qk J (Qk J (Z 2 J (Qk J (Qk J (Qk J (Qk J (Qk J (Qk J (H1 J J J J (fun h=>by cases h) ?_))))))))))));refine H1 J J J J (fun h=>by cases h) ?_;refine H1 J J J J (fun h=>by cases h) ?_;refine H1 J J J J (fun h=>by cases h) ?_;refine H1 J J J J (fun h=>by cases h) ?_;refine H1 J J J J (fun h=>by cases h) ?_;refine H1 J J J J (fun h=>by cases h) ?_;refine H1 J J J J (fun h=>by cases h) ?_;refine H1 J J J J (fun h=>by cases h) ?_;refine H1 J J J J (fun h=>by cases h) ?_;refine H1 J J J J (fun h=>by cases h) ?_;refine H1 J J J J (fun h=>by cases h) ?_;refine H1 J J J J (fun h=>by cases h) ?_;refine H1 J J J J (fun h=>by cases h) ?_;refine H1 J J J J (fun h=>by cases h) ?_;refine H1 J J J J (fun h=>by cases h) ?_;exact Qk J (Zc 2 J (A6 (B4 J J ⟨H5 (by unfold S0;rw [El3 (by omega:¬ 0≤t.mn)];rfl),hC⟩)))
theorem form11_c (t:Syn) (v:Value) (F F2:Nat→Prop) (ks:List Int) (A:Option Addr) (n c bk:Nat) (w:World) (hn:n≤2000000) (hF2:∀ b,F2 b→b<w.heap.size) (hI:IsSyn F w t v) (hK:Blk w bk [.slice A n c] 24) (hrK:Rd F2 w 1 A n (I8 ks)):Calls P 231 #[v,.pointer (some ⟨bk,0,none⟩)] w (Ret fun u w'=>u= .bool (ks.contains t.kind)∧Chg [] w w'):=by
 have hC:=A8 [] w;obtain ⟨q,A1,c1,vs,rfl,_,hB0,_,_⟩:=hI.open;refine D4 Tryz.func231 J J (Qd (Zc 1 J (Qa (C8 (S:=[]) 5 [(0,0),(0,1),(0,2),(0,3),(0,4),(2,5),(2,6)] mo (by kernel_rfl) ?_))));intro w1 hx1 hh1;have hB0:=hB0.u hx1;have hK:=hK.u hx1;have hrK:=hrK.u hx1;refine D6 J (B3 o24 J ‹_› (by simp;done) (by rfl)) ?_;refine Z 2 J (Fa Af2 J (D6 J (B3 o3 J ‹_› (by simp;done) (by rfl)) ?_));refine Ca fb232 J (hasI_c ks t.kind F2 A n c _ hn (fun y hy=>by have:=hF2 y hy;omega) ‹_›) ?_;rintro _ w2 ⟨rfl,hx2⟩;have hC:=hC.s0 (hx1.s0 hx2);exact Zc 1 J (A6 (B4 J J ⟨rfl,hC⟩))
theorem Eb2 {l:List Syn} {vs:List Value} {F F2:Nat→Prop} {ks:List Int} {A:Option Addr} {n c bk:Nat} {w:World} (hIs:IsSyns F w l vs) (hn:n≤2000000) (hF2:∀ b,F2 b→b<w.heap.size) (hK:Blk w bk [.slice A n c] 24) (hrK:Rd F2 w 1 A n (I8 ks)) (k:Nat) (v:Value) (w':World) (hk:k<l.length) (hv:vs[k]?=some v) (hx:Chg [] w w'):
  Calls P 231 (#[]++ #[v]++ #[.pointer (some ⟨bk,0,none⟩)]) w' (Ret fun u w2=>u= .bool (ks.contains (l.getD k default).kind)∧Chg [] w' w2):=by
 obtain ⟨u,hu,hiu⟩:=(hIs.u hx).get k hk;rw [hv] at hu;injection hu with hu
 subst hu;exact form11_c _ _ F F2 ks A n c bk w' hn (fun y hy=>by have:=hF2 y hy;have:=hx.size;omega) hiu (hK.u hx) (hrK.u hx)
theorem form1_c (t:Syn) (v:Value) (F F2:Nat→Prop) (ks:List Int) (A:Option Addr) (n c bn:Nat) (w:World) (hn:n≤2000000) (hl:t.l.length≤2000000) (hF:∀ b,F b→b<w.heap.size) (hF2:∀ b,F2 b→b<w.heap.size) (hI:IsSyn F w t v) (hN:Blk w bn [v] 149) (hrK:Rd F2 w 1 A n (I8 ks)):Calls P 230 #[.slice A n c,.pointer (some ⟨bn,0,none⟩)] w (Ret fun u w'=>u= .bool (notK ks t.l)∧Chg [] w w'):=by
 have hC:=A8 [] w;obtain ⟨q,A1,c1,vs,rfl,_,hB0,hr,hIs⟩:=hI.open;refine D4 Tryz.func230 J J (Qd (B5 J (E1 J J) ?_));intro b1 w1 hb1 hs1 hx1 hB1;have hB0:=hB0.u hx1;have hN:=hN.u hx1;have hr:=hr.u hx1;have hIs:=hIs.u hx1;have hrK:=hrK.u hx1;refine Zc 1 J (Qd (Lb Bb4 J ‹_› (by rfl) ?_));refine Z 1 J (Fa Y1 J (Lc Dm1 J (by rw [hB0.cell];rfl) ?_));refine C9 J (Ab4 (fun a ha=>U7 ha J) (fun a ha=>U7 ha J)) (Ca fb212 J (anyN_c 231 #[] #[.pointer (some ⟨b1,0,none⟩)] fb231 vs (fun k=>ks.contains (t.l.getD k default).kind) F A1 t.l.length c1 _ hl (fun y hy=>by have:=hF y hy;omega) ‹_› (Eb2 hIs hn (fun y hy=>by have:=hF2 y hy;omega) hB1 hrK)) ?_);rintro _ w2 ⟨rfl,hx2⟩;have hC:=hC.s0 (hx1.s0 hx2);exact Zc 2 J (A6 (B4 J J ⟨rfl,hC⟩))
theorem Cb7 {w:World} {b:Nat} {l:List Int} {cs:List Value} {τ:TypeId} (hB:Blk w b cs τ) (h:cs=I8 l):Rd (fun x=>x=b) w 1 (some ⟨b,0,none⟩) l.length (I8 l):=by
 subst h;exact hB.rd (m:=l.length) (by rw [G0];omega) J
theorem Df4 (t:Syn) (v:Value) (F:Nat→Prop) (ks:List Int) (cs:List Value) (τ:TypeId) (bk m bn:Nat) (w:World) (hks:ks.length≤2000000) (hl:t.l.length≤2000000) (hF:∀ b,F b→b<w.heap.size) (hK:Blk w bk cs τ) (hcs:cs=I8 ks) (hI:IsSyn F w t v) (hN:Blk w bn [v] 149):
  Calls P 230 (#[]++[Value.slice (some ⟨bk,0,none⟩) ks.length m].toArray++ #[.pointer (some ⟨bn,0,none⟩)]) w (Ret fun u w'=>u= .bool (notK ks t.l)∧Chg [] w w'):=
 form1_c t v F (fun x=>x=bk) ks (some ⟨bk,0,none⟩) ks.length m bn w hks hl hF (fun y hy=>by rw [hy];exact hK.lt) hI hN (Cb7 hK hcs)
theorem form_c (t:Syn) (v:Value) (F:Nat→Prop) (w:World) (hs:L4 t.set) (hl:t.l.length≤2000000) (hF:∀ b,F b→b<w.heap.size) (hI:IsSyn F w t v):Calls P 211 #[v] w (Ret fun u w'=>u= .bool (Au2 t)∧Chg [] w w'):=by
 have hC:=A8 [] w;obtain ⟨q,A1,c1,vs,rfl,_,hB0,hr,hIs⟩:=hI.open
 have hnp:∀ (k:Nat) (u:Value),vs[k]?=some u→∃ a,u= .pointer (some a):=fun k u hu=>by
  have hk:k<t.l.length:=by rw [← hIs.length];exact (Em5.1 hu).1
  obtain ⟨u',hu',hiu⟩:=hIs.get k hk;rw [hu] at hu';injection hu' with hu';subst hu'
  obtain ⟨p',_,hp',_⟩:=hiu.span;exact ⟨_,hp'⟩
 have hb230:=fb230;refine D4 Tryz.func211 J J (Qd (B5 J (E1 J J) ?_));intro b1 w1 hb1 hs1 hx1 hB1;have hC:=hC.s0 hx1;have hI:=hI.u hx1;have hB0:=hB0.u hx1;have hr:=hr.u hx1;have hIs:=hIs.u hx1
 refine Zc 1 J (I3 (fun e9 wr=>Sub [(1,.pointer (some ⟨b1,0,none⟩)),(2,.bool false)] e9∧Chg [] w wr∧IsSyn F wr t (.pointer (some ⟨q,0,none⟩))∧Blk wr q (Bk3 t.kind t.set t.mn t.mx t.lz (.slice A1 t.l.length c1) t.a t.b) 254∧Rd F wr 1 A1 t.l.length vs∧IsSyns F wr t.l vs∧Blk wr b1 [.pointer (some ⟨q,0,none⟩)] 149∧(t.kind=1∨t.set=0)∧(t.kind=6∨Bj4 t=true)) ?_ ?_)
 ·refine Qd (Lb Bb4 J ‹_› (by rfl) ?_);refine Z 1 J (Fa Y1 J (Lb Dm1 J ‹_› (by rfl) ?_));refine Ca fb228 J (hasP_c vs F A1 t.l.length c1 _ hl (fun y hy=>by have:=hF y hy;omega) ‹_› hnp) ?_;rintro _ w2 ⟨rfl,hx2⟩;have hC:=hC.s0 hx2;have hI:=hI.u hx2;have hB0:=hB0.u hx2;have hr:=hr.u hx2;have hIs:=hIs.u hx2;have hB1:=hB1.u hx2;refine Z 1 J (Qu J (Lb Bb4 J ‹_› (by rfl) ?_));refine Qu J (Z 1 J (Qu J (Fa Af2 J (Qu J (Lb o3 J ‹_› (by rfl) ?_)))))
  refine Qu J (Z 1 J (Qu J (Z 1 J (C0 (d:=15) J (fun h1=>?_) (fun h1=>?_)))))
  ·try simp at h1
   refine Qu J (Lb Bb4 J ‹_› (by rfl) ?_);refine Qu J (Z 1 J (Qu J (Fa Ed1 J (Qu J (La J0 J ‹_› (by rfl) J ?_)))));refine Qu J (C9 J (D7 N0 Av2 J (by rfl)) ?_)
   refine Qu J (C9 J (Dr5 hs P8 J J) (Qu J (Z 3 J (C0 (d:=24) J (fun h2=>?_) (fun h2=>?_)))))
   ·try simp at h2
    refine Qk J (Qk J (Qk J (Qk J (Qk J (Qk J (H1 J J J J (fun h=>by cases h) ?_))))));refine H1 J J J J (fun h=>by cases h) ?_;refine H1 J J J J (fun h=>by cases h) ?_;exact Qk J (Zc 1 J (E3 J (Qd (Zc 1 J (A6 (B4 J J ⟨H5 (by unfold Au2;rw [El3 h1,El3 h2];simp),hC⟩))))))
   ·try simp at h2
    refine Qu J (Lb Bb4 J ‹_› (by rfl) ?_);refine Qu J (Z 1 J (Qu J (Fa Af2 J (Qu J (Lb o3 J ‹_› (by rfl) ?_)))))
    refine Qu J (Z 1 J (Qu J (Z 1 J (C0 (d:=30) J (fun h3=>?_) (fun h3=>?_)))))
    ·try simp at h3
     refine Qu J (Lb Bb4 J ‹_› (by rfl) ?_);refine Qu J (Ca fb229 J (Dw9 t _ F _ ‹_›) ?_);rintro _ w3 ⟨rfl,hx3⟩;have hC:=hC.s0 hx3;have hI:=hI.u hx3;have hB0:=hB0.u hx3;have hr:=hr.u hx3;have hIs:=hIs.u hx3;have hB1:=hB1.u hx3
     refine Qu J (Z 1 J (Qu J (Zc 2 J (A4 J (fun h4=>?_) (fun h4=>?_)))))
     ·try simp at h4
      exact Qd (Zc 1 J (A6 (B4 J J ⟨H5 (by unfold Au2;rw [El3 h3,h4];simp),hC⟩)))
     ·try simp at h4
      refine A7 ⟨(sb J),?_⟩;exact ⟨hC,hI,hB0,hr,hIs,hB1,Or.inr h2,Or.inr h4⟩
    ·try simp at h3
     refine Qk J (Qk J (Qk J (Qu J (Zc 2 J (E4 J (A7 ⟨(sb J),?_⟩))))));exact ⟨hC,hI,hB0,hr,hIs,hB1,Or.inr h2,Or.inl h3⟩
  ·try simp at h1
   refine Qk J (Qk J (Qk J (Qk J (Qk J (Qk J (Qu J (Z 3 J (Qu J (Lb Bb4 J ‹_› (by rfl) ?_)))))))));refine Qu J (Z 1 J (Qu J (Fa Af2 J (Qu J (Lb o3 J ‹_› (by rfl) ?_)))))
   refine Qu J (Z 1 J (Qu J (Z 1 J (C0 (d:=30) J (fun h3=>?_) (fun h3=>?_)))))
   ·try simp at h3
    refine Qu J (Lb Bb4 J ‹_› (by rfl) ?_);refine Qu J (Ca fb229 J (Dw9 t _ F _ ‹_›) ?_);rintro _ w4 ⟨rfl,hx4⟩;have hC:=hC.s0 hx4;have hI:=hI.u hx4;have hB0:=hB0.u hx4;have hr:=hr.u hx4;have hIs:=hIs.u hx4;have hB1:=hB1.u hx4
    refine Qu J (Z 1 J (Qu J (Zc 2 J (A4 J (fun h4=>?_) (fun h4=>?_)))))
    ·try simp at h4
     exact Qd (Zc 1 J (A6 (B4 J J ⟨H5 (by unfold Au2;rw [El3 h3,h4];simp),hC⟩)))
    ·try simp at h4
     refine A7 ⟨(sb J),?_⟩;exact ⟨hC,hI,hB0,hr,hIs,hB1,Or.inl h1,Or.inr h4⟩
   ·try simp at h3
    refine Qk J (Qk J (Qk J (Qu J (Zc 2 J (E4 J (A7 ⟨(sb J),?_⟩))))));exact ⟨hC,hI,hB0,hr,hIs,hB1,Or.inl h1,Or.inl h3⟩
 rintro e9 w9 ⟨hs9,hC,hI,hB0,hr,hIs,hB1,hk1,hk2⟩;refine I2 _ hs9 ?_;clear hs9 e9
 try have hzw:=hC.size
 try have hlB0:=hB0.lt
 try have hlB1:=hB1.lt
 have e1:(decide (t.kind=1)||decide (t.set=0))=true:=by rcases hk1 with h|h<;>simp [h]
 have e2:(decide (t.kind=6)||Bj4 t)=true:=by rcases hk2 with h|h<;>simp [h]
 have hform:Au2 t=Ad4 t:=by unfold Au2;rw [e1,e2];rfl
 rw [hform];refine Qd (C9 J (Ab4 (fun a ha=>U7 ha J) (fun a ha=>U7 ha J)) (Zc 1 J (Qa (Qd (Lb Bb4 J ‹_› (by rfl) ?_)))));refine Z 1 J (Fa Af2 J (Lb o3 J ‹_› (by rfl) ?_))
 refine Qc (B2 (I3 (fun e9 wr=>Sub [(1,.pointer (some ⟨b1,0,none⟩)),(2,.bool false),(3,.func (.func 230) #[] #[.pointer (some ⟨b1,0,none⟩)]),(40,.int .i64 t.kind),(41,.bool (decide (t.kind=0∨t.kind=1)))] e9∧wr=w9∧Chg [] w wr) ?_ ?_))
 ·refine Qd (Zc 2 J (A4 J (fun a1=>?_) (fun a1=>?_)))
  ·try simp at a1
   refine A7 ⟨⟨rfl,rfl,rfl,rfl,(H3 J (by rw [El4,cmpB_eql,El7];omega)),trivial⟩,?_⟩;exact ⟨rfl,hC⟩
  ·try simp at a1
   refine Qb (Zc 2 J ⟨⟨rfl,rfl,rfl,rfl,(H3 J (by rw [El4,cmpB_eql,El7];omega)),trivial⟩,?_⟩);exact ⟨rfl,hC⟩
 rintro e9 w8 ⟨hs9,rfl,hC⟩;refine I2 _ hs9 ?_;clear hs9 e9
 try have hzw:=hC.size
 try have hlB0:=hB0.lt
 try have hlB1:=hB1.lt
 refine A4 J (fun a2=>?_) (fun a2=>?_)
 ·try simp at a2
  refine Qd (Lb Bb4 J ‹_› (by rfl) ?_);refine Z 1 J (Fa Y1 J (Lb Dm1 J ‹_› (by rfl) ?_));exact Ln Tryz.underlying241 J (Zc 2 J (A6 (B4 J J ⟨H5 (by unfold Ad4;rw [Ek1 a2,El4,cmpB_eql,El7];omega),hC⟩)))
 ·try simp at a2
  refine I3 (fun e9 wr=>Sub [(1,.pointer (some ⟨b1,0,none⟩)),(2,.bool false),(3,.func (.func 230) #[] #[.pointer (some ⟨b1,0,none⟩)]),(40,.int .i64 t.kind),(50,.bool (decide (t.kind=2∨t.kind=3)))] e9∧wr=w8∧Chg [] w wr) ?_ ?_
  ·refine Qd (Zc 2 J (A4 J (fun a1=>?_) (fun a1=>?_)))
   ·try simp at a1
    refine A7 ⟨⟨rfl,rfl,rfl,rfl,(H3 J (by rw [El4,cmpB_eql,El7];omega)),trivial⟩,?_⟩;exact ⟨rfl,hC⟩
   ·try simp at a1
    refine Qb (Zc 2 J ⟨⟨rfl,rfl,rfl,rfl,(H3 J (by rw [El4,cmpB_eql,El7];omega)),trivial⟩,?_⟩);exact ⟨rfl,hC⟩
  rintro e9 w7 ⟨hs9,rfl,hC⟩;refine I2 _ hs9 ?_;clear hs9 e9
  refine A4 J (fun a3=>?_) (fun a3=>?_)
  ·try simp at a3
   refine Qd (Lb Bb4 J ‹_› (by rfl) ?_);refine Z 1 J (Fa Y1 J (Lb Dm1 J ‹_› (by rfl) ?_));exact Ln Tryz.underlying241 J (Zc 2 J (A6 (B4 J J ⟨H5 (by unfold Ad4;rw [Ek0 (by omega),Ek1 a3,El4,cmpB_eql,El7];omega),hC⟩)))
  ·try simp at a3
   refine Qd (Zc 2 J (A4 J (fun a4=>?_) (fun a4=>?_)))
   ·try simp at a4
    have hE:Ad4 t=(decide (1<t.l.length) && notK [4,0,5] t.l):=by unfold Ad4;rw [Ek0 (by omega),Ek0 (by omega),Ek1 a4]
    refine Qd (Lb Bb4 J ‹_› (by rfl) ?_);refine Z 1 J (Fa Y1 J (Lb Dm1 J ‹_› (by rfl) ?_))
    refine Ln Tryz.underlying241 J (Z 2 J (C0 (d:=67) J (fun a5=>?_) (fun a5=>?_)))
    ·try simp at a5
     refine Qu J (Z 1 J (Qu J (B5 J (B7 T8 Tryz.underlying24 zr3 J J J (by rfl)) ?_)));intro b5 w5 hb5 hs5 hx5 hB5;have hI:=hI.u hx5;have hB1:=hB1.u hx5;refine Qu J (P0 J (O0 J hb230 J) (Df4 t _ F [4,0,5] _ _ _ _ b1 _ (by decide) hl (fun y hy=>by have:=hF y hy;omega) ‹_› J ‹_› ‹_›) ?_);rintro _ w6 ⟨rfl,hx6⟩;have hC:=hC.s0 (hx5.s0 hx6);exact Zc 2 J (A6 (B4 J J ⟨H5 (by rw [hE,El2 (by omega)];rfl),hC⟩))
    ·try simp at a5
     exact Qk J (Qk J (Qk J (Zc 2 J (A6 (B4 J J ⟨H5 (by rw [hE,El3 (by omega)];rfl),hC⟩)))))
   ·try simp at a4
    refine Qd (Zc 2 J (A4 J (fun a6=>?_) (fun a6=>?_)))
    ·try simp at a6
     have hE:Ad4 t=(decide (1<t.l.length) && notK [5] t.l):=by unfold Ad4;rw [Ek0 (by omega),Ek0 (by omega),Ek0 (by omega),Ek1 a6]
     refine Qd (Lb Bb4 J ‹_› (by rfl) ?_);refine Z 1 J (Fa Y1 J (Lb Dm1 J ‹_› (by rfl) ?_))
     refine Ln Tryz.underlying241 J (Z 2 J (C0 (d:=80) J (fun a7=>?_) (fun a7=>?_)))
     ·try simp at a7
      refine Qu J (Z 1 J (Qu J (B5 J (B7 T8 Tryz.underlying24 zr3 J J J (by rfl)) ?_)));intro b7 w7 hb7 hs7 hx7 hB7;have hI:=hI.u hx7;have hB1:=hB1.u hx7;refine Qu J (P0 J (O0 J hb230 J) (Df4 t _ F [5] _ _ _ _ b1 _ (by decide) hl (fun y hy=>by have:=hF y hy;omega) ‹_› J ‹_› ‹_›) ?_);rintro _ w8 ⟨rfl,hx8⟩;have hC:=hC.s0 (hx7.s0 hx8);exact Zc 2 J (A6 (B4 J J ⟨H5 (by rw [hE,El2 (by omega)];rfl),hC⟩))
     ·try simp at a7
      exact Qk J (Qk J (Qk J (Zc 2 J (A6 (B4 J J ⟨H5 (by rw [hE,El3 (by omega)];rfl),hC⟩)))))
    ·try simp at a6
     refine Qd (Zc 2 J (A4 J (fun a8=>?_) (fun a8=>?_)))
     ·try simp at a8
      have hE:Ad4 t=(decide (t.l.length=1) && (S0 t && (decide ((t.l.getD 0 default).kind=1)||Ae2 (t.l.getD 0 default)))):=by unfold Ad4;rw [Ek0 (by omega),Ek0 (by omega),Ek0 (by omega),Ek0 (by omega),Ek1 a8]
      refine Qd (Lb Bb4 J ‹_› (by rfl) ?_);refine Z 1 J (Fa Y1 J (Lb Dm1 J ‹_› (by rfl) ?_))
      refine Ln Tryz.underlying241 J (Z 2 J (C0 (d:=93) J (fun a9=>?_) (fun a9=>?_)))
      ·try simp at a9
       have a9':t.l.length=1:=by omega
       refine Qu J (Lb Bb4 J ‹_› (by rfl) ?_);refine Qu J (Ca fb233 J (Ef8 t _ F _ ‹_›) ?_);rintro _ w9 ⟨rfl,hx9⟩;have hC:=hC.s0 hx9;have hB0:=hB0.u hx9;have hr:=hr.u hx9;have hIs:=hIs.u hx9;have hB1:=hB1.u hx9
       refine Z 2 J (C0 (d:=97) J (fun a10=>?_) (fun a10=>?_))
       ·try simp at a10
        obtain ⟨v0,hv0,hi0⟩:=hIs.get 0 (by omega);generalize t.l.getD 0 default=ch at*;obtain ⟨p0,cs0,rfl,_,hBc,_,_,hk0⟩:=hi0.span;obtain ⟨g,off,rfl,_,_,_⟩:=hr.at_ (by omega);refine Qu J (Lb Bb4 J ‹_› (by rfl) ?_);refine Qu J (Z 1 J (Qu J (Fa Y1 J (Qu J (Lb Dm1 J ‹_› (by rfl) ?_)))));refine Qu J (C9 J (B0 Am1 J J (by omega) (by omega)) (Qu J (Lc Bb4 J (hr.one hv0).2 (Qu J (Z 1 J (Qu J (Fa Af2 J (Qu J (Lc o3 J (by rw [hBc.cell];exact hk0) ?_)))))))))
        refine Qu J (Z 1 J (Qu J (Z 1 J (C0 (d:=108) J (fun a11=>?_) (fun a11=>?_)))))
        ·try simp at a11
         exact Qk J (Qk J (Qk J (Qk J (Qk J (Qk J (Qk J (Qu J (Zc 3 J (A6 (B4 J J ⟨H5 (by rw [hE,El2 a9',a10,El2 a11];rfl),hC⟩))))))))))
        ·try simp at a11
         refine Qu J (Lb Bb4 J ‹_› (by rfl) ?_);refine Qu J (Z 1 J (Qu J (Fa Y1 J (Qu J (Lb Dm1 J ‹_› (by rfl) ?_)))));refine Qu J (C9 J (B0 Am1 J J (by omega) (by omega)) (Qu J (Lc Bb4 J (hr.one hv0).2 (Qu J (Ca fb214 J (Cn0 _ _ F _ hi0) ?_)))));rintro _ w10 ⟨rfl,hx10⟩;have hC:=hC.s0 hx10;exact Qu J (Zc 3 J (A6 (B4 J J ⟨H5 (by rw [hE,El2 a9',a10,El3 a11];simp),hC⟩)))
       ·try simp at a10
        refine Qk J (Qk J (Qk J (Qk J (Qk J (Qk J (Qk J (Qk J (Qk J (Qk J (Qk J (H1 J J J J (fun h=>by cases h) ?_)))))))))));refine H1 J J J J (fun h=>by cases h) ?_;refine H1 J J J J (fun h=>by cases h) ?_;refine H1 J J J J (fun h=>by cases h) ?_;refine H1 J J J J (fun h=>by cases h) ?_;refine H1 J J J J (fun h=>by cases h) ?_;refine H1 J J J J (fun h=>by cases h) ?_;exact Qk J (Zc 2 J (A6 (B4 J J ⟨H5 (by rw [hE,a10];simp),hC⟩)))
      ·try simp at a9
       refine Qk J (Qk J (Z 2 J (Qk J (Qk J (Qk J (Qk J (Qk J (Qk J (Qk J (Qk J (Qk J (Qk J (Qk J (H1 J J J J (fun h=>by cases h) ?_))))))))))))));refine H1 J J J J (fun h=>by cases h) ?_;refine H1 J J J J (fun h=>by cases h) ?_;refine H1 J J J J (fun h=>by cases h) ?_;refine H1 J J J J (fun h=>by cases h) ?_;refine H1 J J J J (fun h=>by cases h) ?_;refine H1 J J J J (fun h=>by cases h) ?_;exact Qk J (Zc 2 J (A6 (B4 J J ⟨H5 (by rw [hE,El3 (by omega)];rfl),hC⟩)))
     ·try simp at a8
      exact A7 (Qd (Zc 1 J (A6 (B4 J J ⟨H5 (by unfold Ad4;rw [Ek0 (by omega),Ek0 (by omega),Ek0 (by omega),Ek0 (by omega),Ek0 (by omega)]),hC⟩))))
mutual
def SynOk:Syn→Prop
 | .node _ s _ _ _ l _ _=>L4 s∧l.length≤2000000∧SynsOk l
def SynsOk:List Syn→Prop
 |[]=>True
 |t::r=>SynOk t∧SynsOk r
end
mutual
def V1:Syn→Bool
 | .node k s mn mx lz l a b=>Au2 (.node k s mn mx lz l a b) && T9 l
def T9:List Syn→Bool
 |[]=>true
 |t::r=>V1 t && T9 r
end
mutual
def Q8:Syn→Nat
 | .node k _ _ _ _ l _ _=>if k=2∨k=3 then U1 l+1 else U1 l
def U1:List Syn→Nat
 |[]=>0
 |t::r=>max (Q8 t) (U1 r)
end
theorem Bl9:∀ (l:List Syn),T9 l= !((List.range l.length).any fun k=> !V1 (l.getD k default))
 |[]=>rfl
 |t::r=>by
  rw [T9,Bl9 r,En2,List.range_succ_eq_map,List.any_cons,List.any_map];simp only [List.getD_cons_zero,Function.comp_def,El9,Bool.not_or,Bool.not_not]
def Bc9 (t:Syn):Prop:=∀ (v:Value) (F:Nat→Prop) (w:World),(∀ b,F b→b<w.heap.size)→IsSyn F w t v→Calls P 184 #[v] w (Ret fun u w'=>u= .bool (V1 t)∧Chg [] w w')
theorem Ec2 (t:Syn) (v:Value) (F:Nat→Prop) (w:World) (hF:∀ b,F b→b<w.heap.size) (hI:IsSyn F w t v) (hc:Bc9 t):Calls P 213 #[v] w (Ret fun u w'=>u= .bool (!V1 t)∧Chg [] w w'):=by
 have hC:=A8 [] w;refine D4 Tryz.func213 J J (Qd (Zc 1 J (Qd (Z 1 J (Ca fb184 J (hc v F _ hF hI) ?_)))));rintro _ w1 ⟨rfl,hx1⟩;have hC:=hC.s0 hx1;exact Zc 2 J (A6 (B4 J J ⟨rfl,hC⟩))
theorem Cw2 {l:List Syn} {vs:List Value} {F:Nat→Prop} {w:World} (hIs:IsSyns F w l vs) (hF:∀ b,F b→b<w.heap.size) (hc:∀ k,k<l.length→Bc9 (l.getD k default)) (k:Nat) (v:Value) (w':World) (hk:k<l.length) (hv:vs[k]?=some v) (hx:Chg [] w w'):
  Calls P 213 (#[]++ #[v]++ #[]) w' (Ret fun u w2=>u= .bool (!V1 (l.getD k default))∧Chg [] w' w2):=by
 obtain ⟨u,hu,hiu⟩:=(hIs.u hx).get k hk;rw [hv] at hu;injection hu with hu
 subst hu;exact Ec2 _ _ F w' (fun y hy=>by have:=hF y hy;have:=hx.size;omega) hiu (hc k hk)
theorem Cw1 (t:Syn) (ht:SynOk t) (hc:∀ k,k<t.l.length→Bc9 (t.l.getD k default)):Bc9 t:=by
 intro v F w hF hI;have hC:=A8 [] w;have hset:L4 t.set:=by cases t with|node k s mn mx lz l a b=>exact ht.1
 have hll:t.l.length≤2000000:=by cases t with|node k s mn mx lz l a b=>exact ht.2.1
 have hE:V1 t=(Au2 t && T9 t.l):=by cases t with|node k s mn mx lz l a b=>rfl
 obtain ⟨q,A1,c1,vs,rfl,_,hB0,hr,hIs⟩:=hI.open
 refine D4 Tryz.func184 J J (Qd (Zc 1 J (Qd (Z 1 J (C9 J (Dr6 Tryz.underlying149 J J) (Z 1 J (C0 (d:=5) J (fun h0=>?_) (fun h0=>?_))))))))
 ·try simp at h0
  refine Qu J (Z 1 J (Qu J (Ca fb211 J (form_c t _ F _ hset hll (fun y hy=>by have:=hF y hy;omega) ‹_›) ?_)));rintro _ w1 ⟨rfl,hx1⟩;have hz1:=hx1.size;have hC:=hC.s0 hx1;have hB0:=hB0.u hx1;have hr:=hr.u hx1;have hIs:=hIs.u hx1
  refine Z 2 J (C0 (d:=9) J (fun h1=>?_) (fun h1=>?_))
  ·try simp at h1
   refine Qu J (Z 1 J (Qu J (Z 1 J (Qu J (Fa Y1 J (Qu J (Lb Dm1 J ‹_› (by rfl) ?_)))))));refine Qu J (Ca fb212 J (anyN_c 213 #[] #[] fb213 vs (fun k=> !V1 (t.l.getD k default)) F A1 t.l.length c1 _ hll (fun y hy=>by have:=hF y hy;omega) ‹_› (Cw2 hIs (fun y hy=>by have:=hF y hy;omega) hc)) ?_);rintro _ w2 ⟨rfl,hx2⟩;have hC:=hC.s0 hx2;exact Qu J (Zc 3 J (A6 (B4 J J ⟨H5 (by rw [hE,h1,Bl9];rfl),hC⟩)))
  ·try simp at h1
   exact Qk J (Qk J (Qk J (Qk J (Qk J (Qk J (Zc 2 J (A6 (B4 J J ⟨H5 (by rw [hE,h1];rfl),hC⟩))))))))
 ·try simp at h0
  all_goals cases h0
mutual
theorem Bv2:∀ (t:Syn),SynOk t→Bc9 t
 | .node k s mn mx lz l a b,ht=>Cw1 _ ht (Bl8 l ht.2.2)
theorem Bl8:∀ (l:List Syn),SynsOk l→∀ k,k<l.length→Bc9 (l.getD k default)
 |[],_,k,hk=>absurd hk (by simp)
 |t::r,h,0,_=>Bv2 t h.1
 |t::r,h,k+1,hk=>by rw [El9];exact Bl8 r h.2 k (by simpa using hk)
end
theorem Dp3 (l:List Syn) (k:Nat) (hk:k<l.length):U1 (l.take (k+1))=max (U1 (l.take k)) (Q8 (l.getD k default)):=by
 induction l generalizing k with
 |nil=>simp at hk
 |cons t r ih=>
  cases k with
  |zero=>simp [U1]
  |succ k=>
   have:=ih k (by simpa using hk);simp only [Ep3,U1,El9,this];omega
def DeepC (t:Syn):Prop:=∀ (v:Value) (F:Nat→Prop) (w:World),(∀ b,F b→b<w.heap.size)→IsSyn F w t v→Calls P 185 #[v] w (Ret fun u w'=>u= .int .i64 (Q8 t:Nat)∧Chg [] w w')
theorem Ee9 (t:Syn) (hll:t.l.length≤2000000) (hd:U1 t.l≤100000000) (hc:∀ k,k<t.l.length→DeepC (t.l.getD k default)):DeepC t:=by
 intro v F w hF hI;have hC:=A8 [] w;have hE:Q8 t=if t.kind=2∨t.kind=3 then U1 t.l+1 else U1 t.l:=by cases t with|node k s mn mx lz l a b=>rfl
 have hgq:Ae2 t=decide (t.kind=2∨t.kind=3):=by unfold Ae2;rw [El4];simp
 obtain ⟨q,A1,c1,vs,rfl,_,hB0,hr,hIs⟩:=hI.open
 refine D4 Tryz.func185 J J (Qd (Zc 1 J (Qa (Qd (Z 1 J (C9 J (I0 Tryz.underlying149 J J) (Qc (A4 J (fun h0=>?_) (fun h0=>?_)))))))))
 ·try simp at h0
  all_goals cases h0
 ·try simp at h0
  refine A7 (Qd (Zc 1 J (Qa (Qd (Z 2 J (Fa Y1 J (Lb Dm1 J ‹_› (by rfl) ?_)))))))
  refine Ln Tryz.underlying241 J (Zc 1 J (B2 (D8 (σ:=Nat) (fun k=>[(0,.pointer (some ⟨q,0,none⟩)),(3,.int .i64 ((U1 (t.l.take k):Nat):Int)),(11,.slice A1 t.l.length c1),(12,.int .i64 t.l.length),(13,.int .i64 k)]) (fun k wr=>Chg [] w wr∧IsSyn F wr t (.pointer (some ⟨q,0,none⟩))∧Rd F wr 1 A1 t.l.length vs∧IsSyns F wr t.l vs∧k≤t.l.length) (fun k wr=>t.l.length - k) 0 (sb J) ?_ ?_)))
  ·exact ⟨hC,hI,hr,hIs,El0 _⟩
  rintro k w9 ⟨hC,hI,hr,hIs,hk⟩
  try have hzw:=hC.size
  refine Qd (Zc 1 J (Qa (A4 J (fun h1=>?_) (fun h1=>?_))))
  ·try simp at h1
   have hkn:k<t.l.length:=by omega
   obtain ⟨v0,hv0,hi0⟩:=hIs.get k hkn;obtain ⟨g,off,rfl,_,_,_⟩:=hr.at_ (by omega);refine A7 (Qa (B2 (Qd (C9 J (B0 Am1 J J (by omega) (by omega)) (Lc Bb4 J (hr.one hv0).2 (Zc 1 J (Qb (Z 2 J (Ca fb185 J (hc k hkn v0 F _ (fun y hy=>by have:=hF y hy;omega) hi0) ?_)))))))));rintro _ w1 ⟨rfl,hx1⟩;have hC:=hC.s0 hx1;have hI:=hI.u hx1;have hr:=hr.u hx1;have hIs:=hIs.u hx1;refine C9 J (Y9 J J) (Zc 1 J (Qb (Ad J J (by omega) (Zc 1 J ⟨k+1,⟨rfl,(G2 J (by rw [Dp3 t.l k hkn];omega)),rfl,rfl,rfl,trivial⟩,?_,?_⟩))));exact ⟨hC,hI,hr,hIs,hkn⟩;omega
  ·try simp at h1
   have hkk:k=t.l.length:=by omega
   subst hkk;rw [Eo6];refine Xb (Qa (Qd (Z 1 J (Ca fb214 J (Cn0 t _ F _ ‹_›) ?_))));rintro _ w2 ⟨rfl,hx2⟩;have hC:=hC.s0 hx2
   refine Qc (A4 J (fun h2=>?_) (fun h2=>?_))
   ·try simp at h2
    exact Qb (Z 1 J (Ad J J (by omega) (Zc 1 J (Qd (Zc 2 J (A6 (B4 J J ⟨J4 (by rw [hE,Ek1 (by rw [hgq] at h2;simpa using h2)];omega),hC⟩)))))))
   ·try simp at h2
    exact A7 (Qd (Zc 2 J (A6 (B4 J J ⟨J4 (by rw [hE,Ek0 (by rw [hgq] at h2;simpa using h2)]),hC⟩))))
theorem Ef0 (t:Syn):U1 t.l≤Q8 t:=by
 cases t with
 |node k s mn mx lz l a b=>unfold Q8;show U1 l≤_;split<;>omega
mutual
theorem Dh2:∀ (t:Syn),SynOk t→Q8 t≤100000000→DeepC t
 | .node k s mn mx lz l a b,ht,hd=>Ee9 _ ht.2.1 (En6 (Ef0 _) hd) (Co6 l ht.2.2 (En6 (Ef0 (.node k s mn mx lz l a b)) hd))
theorem Co6:∀ (l:List Syn),SynsOk l→U1 l≤100000000→∀ k,k<l.length→DeepC (l.getD k default)
 |[],_,_,k,hk=>absurd hk (by simp)
 |t::r,h,hd,0,_=>Dh2 t h.1 (by unfold U1 at hd;omega)
 |t::r,h,hd,k+1,hk=>by rw [El9];exact Co6 r h.2 (by unfold U1 at hd;omega) k (by simpa using hk)
end
def Ci7 (t:Syn):Bool:=V1 t && decide (Q8 t≤200)
theorem right_c (t:Syn) (ht:SynOk t) (hd:Q8 t≤100000000) (v:Value) (F:Nat→Prop) (w:World) (hF:∀ b,F b→b<w.heap.size) (hI:IsSyn F w t v):Calls P 152 #[v] w (Ret fun u w'=>u= .bool (Ci7 t)∧Chg [] w w'):=by
 have hC:=A8 [] w;refine D4 Tryz.func152 J J (Qd (Zc 1 J (Qd (Z 1 J (Ca fb184 J (Bv2 t ht v F _ hF ‹_›) ?_)))));rintro _ w1 ⟨rfl,hx1⟩;have hz1:=hx1.size;have hC:=hC.s0 hx1;have hI:=hI.u hx1
 refine Z 1 J (C0 (d:=5) J (fun h1=>?_) (fun h1=>?_))
 ·try simp at h1
  refine Qu J (Z 1 J (Qu J (Ca fb185 J (Dh2 t ht hd v F _ (fun y hy=>by have:=hF y hy;omega) ‹_›) ?_)));rintro _ w2 ⟨rfl,hx2⟩;have hC:=hC.s0 hx2;exact Qu J (Zc 3 J (A6 (B4 J J ⟨H5 (by unfold Ci7;rw [h1,Eu5,El4,cmpB_leq,El7];omega),hC⟩)))
 ·try simp at h1
  exact Qk J (Qk J (Qk J (Zc 2 J (A6 (B4 J J ⟨H5 (by unfold Ci7;rw [h1];rfl),hC⟩)))))
inductive Cor where
 |empty
 |set (s:Nat)
 |cat (a b:Cor)
 |alt (a b:Cor)
 |star (lz:Bool) (a:Cor)
def Af0 (j:Cor→Cor→Cor):List Cor→Cor
 |[]=>.empty
 |[x]=>x
 |x::y::r=>j x (Af0 j (y::r))
def Bc3 (n:Cor) (lz:Bool):Cor:=if lz then .alt .empty n else .alt n .empty
def W7 (r:Cor) (lz:Bool):Nat→Cor
 |0=>Bc3 r lz
 |k+1=>Bc3 (.cat r (W7 r lz k)) lz
def Am9 (mn mx:Int) (lz:Bool) (r:Cor):Cor:=
 Af0 .cat (List.replicate mn.toNat r++(if mx= -1 then [.star lz r] else if mn<mx then [W7 r lz ((mx - mn).toNat - 1)] else []))
mutual
def Ah1:Syn→Cor
 | .node k s mn mx lz l a b=>
  if k=1 then .set s
  else if k=2∨k=3 then (N2 l).headD .empty
  else if k=4 then Af0 .cat (N2 l)
  else if k=5 then Af0 .alt (N2 l)
  else if k=6 then Am9 mn mx lz ((N2 l).headD .empty)
  else .empty
def N2:List Syn→List Cor
 |[]=>[]
 |t::r=>Ah1 t::N2 r
end
def Ct6:Cor:=.star true (.set (Q2 0))
def Ch2 (r:Cor) (mode:Int):Cor:=if mode=1 then .cat r Ct6 else if mode=2 then .cat Ct6 r else if mode=3 then .cat Ct6 (.cat r Ct6) else r
def Eg4 (k:Int) (s:Nat) (lz:Bool) (a b:Value):List Value:=[.int .i64 k]++C4 s++[.bool lz,a,b]
def IsCor (F:Nat→Prop) (w:World):Cor→Value→Prop
 | .empty,v=>∃ p,v= .pointer (some ⟨p,0,none⟩)∧F p∧Blk w p (Eg4 0 0 false (.pointer none) (.pointer none)) 214
 | .set s,v=>∃ p,v= .pointer (some ⟨p,0,none⟩)∧F p∧Blk w p (Eg4 1 s false (.pointer none) (.pointer none)) 214
 | .cat a b,v=>∃ p va vb,v= .pointer (some ⟨p,0,none⟩)∧F p∧Blk w p (Eg4 2 0 false va vb) 214∧IsCor F w a va∧IsCor F w b vb
 | .alt a b,v=>∃ p va vb,v= .pointer (some ⟨p,0,none⟩)∧F p∧Blk w p (Eg4 3 0 false va vb) 214∧IsCor F w a va∧IsCor F w b vb
 | .star lz a,v=>∃ p va,v= .pointer (some ⟨p,0,none⟩)∧F p∧Blk w p (Eg4 4 0 lz va (.pointer none)) 214∧IsCor F w a va
theorem IsCor.map {F F':Nat→Prop} {w w':World} (hB:∀ p cs τ,F p→Blk w p cs τ→F' p∧Blk w' p cs τ):∀ (t:Cor) (v:Value),IsCor F w t v→IsCor F' w' t v
 | .empty,v,⟨p,h1,h2,h3⟩=>⟨p,h1,(hB _ _ _ h2 h3).1,(hB _ _ _ h2 h3).2⟩
 | .set s,v,⟨p,h1,h2,h3⟩=>⟨p,h1,(hB _ _ _ h2 h3).1,(hB _ _ _ h2 h3).2⟩
 | .cat a b,v,⟨p,va,vb,h1,h2,h3,h4,h5⟩=>⟨p,va,vb,h1,(hB _ _ _ h2 h3).1,(hB _ _ _ h2 h3).2,IsCor.map hB a va h4,IsCor.map hB b vb h5⟩
 | .alt a b,v,⟨p,va,vb,h1,h2,h3,h4,h5⟩=>⟨p,va,vb,h1,(hB _ _ _ h2 h3).1,(hB _ _ _ h2 h3).2,IsCor.map hB a va h4,IsCor.map hB b vb h5⟩
 | .star lz a,v,⟨p,va,h1,h2,h3,h4⟩=>⟨p,va,h1,(hB _ _ _ h2 h3).1,(hB _ _ _ h2 h3).2,IsCor.map hB a va h4⟩
theorem IsCor.q {F:Nat→Prop} {w w':World} {S:List Nat} {t:Cor} {v:Value} (h:IsCor F w t v) (k:Chg S w w') (hS:∀ b∈S,¬ F b):IsCor F w' t v:=
 IsCor.map (fun p cs τ hp hb=>⟨hp,hb.q k (fun hm=>hS p hm hp)⟩) t v h
theorem IsCor.u {F:Nat→Prop} {w w':World} {t:Cor} {v:Value} (h:IsCor F w t v) (k:Chg [] w w'):IsCor F w' t v:=h.q k (fun b hb=>by cases hb)
theorem IsCor.mono {F F':Nat→Prop} {w:World} {t:Cor} {v:Value} (h:IsCor F w t v) (hF:∀ b,F b→b<w.heap.size→F' b):IsCor F' w t v:=
 IsCor.map (fun p cs τ hp hb=>⟨hF p hp hb.lt,hb⟩) t v h
theorem IsCor.ptr {F:Nat→Prop} {w:World} {t:Cor} {v:Value} (h:IsCor F w t v):∃ p,v= .pointer (some ⟨p,0,none⟩):=by
 cases t with
 |empty=>obtain ⟨p,h1,_⟩:=h;exact ⟨p,h1⟩
 |set s=>obtain ⟨p,h1,_⟩:=h;exact ⟨p,h1⟩
 |cat a b=>obtain ⟨p,_,_,h1,_⟩:=h;exact ⟨p,h1⟩
 |alt a b=>obtain ⟨p,_,_,h1,_⟩:=h;exact ⟨p,h1⟩
 |star lz a=>obtain ⟨p,_,h1,_⟩:=h;exact ⟨p,h1⟩
theorem Dq0 (k:Int) (lz:Bool) (a b:Value):Eg4 k 0 lz a b=[.int .i64 k,.int .u64 0,.int .u64 0,.int .u64 0,.int .u64 0,.bool lz,a,b]:=by
 simp [Eg4,C6]
theorem By1 (k:Int) (pa pb:Nat) (w:World):Calls P 157 #[.int .i64 k,.pointer (some ⟨pa,0,none⟩),.pointer (some ⟨pb,0,none⟩)] w (Ret fun v w'=>Chg [] w w'∧∃ p,v= .pointer (some ⟨p,0,none⟩)∧w.heap.size≤p∧Blk w' p (Eg4 k 0 false (.pointer (some ⟨pa,0,none⟩)) (.pointer (some ⟨pb,0,none⟩))) 214):=by
 have hC:=A8 [] w;refine D4 Tryz.func157 J J (Qd (Zc 1 J (Qd (Z 3 J (C9 J (B1 Ch0 Ck1 J (by rfl)) ?_)))));refine B5 J (E1 J J) ?_;intro b1 w1 hb1 hs1 hx1 hB1;have hC:=hC.s0 hx1;exact Zc 1 J (A6 (B4 J J ⟨hC,_,rfl,by omega,by rw [Dq0];assumption⟩))
theorem star_c (pa:Nat) (lz:Bool) (w:World):Calls P 155 #[.pointer (some ⟨pa,0,none⟩),.bool lz] w (Ret fun v w'=>Chg [] w w'∧∃ p,v= .pointer (some ⟨p,0,none⟩)∧w.heap.size≤p∧Blk w' p (Eg4 4 0 lz (.pointer (some ⟨pa,0,none⟩)) (.pointer none)) 214):=by
 have hC:=A8 [] w;refine D4 Tryz.func155 J J (Qd (Zc 1 J (Qd (Z 2 J (C9 J (B1 Ch0 Ck1 J (by rfl)) ?_)))));refine B5 J (E1 J J) ?_;intro b1 w1 hb1 hs1 hx1 hB1;have hC:=hC.s0 hx1;exact Zc 1 J (A6 (B4 J J ⟨hC,_,rfl,by omega,by rw [Dq0];assumption⟩))
theorem catf_c (a b:Cor) (va vb:Value) (F:Nat→Prop) (w:World) (ha:IsCor F w a va) (hb:IsCor F w b vb):Calls P 189 #[va,vb] w (Ret fun v w'=>Chg [] w w'∧IsCor (fun x=>F x∨w.heap.size≤x) w' (.cat a b) v):=by
 have hC:=A8 [] w;obtain ⟨pa,rfl⟩:=ha.ptr;obtain ⟨pb,rfl⟩:=hb.ptr;refine D4 Tryz.func189 J J (Qd (Zc 1 J (Qd (Z 2 J (Ca Ce2 J (By1 2 pa pb _) ?_)))));rintro v7 w1 ⟨hx1,p,hv,hp,hBn⟩;have hC:=hC.s0 hx1;exact Zc 1 J (A6 (B4 J J ⟨hC,p,_,_,hv,Or.inr hp,hBn,(ha.u hC).mono (fun y hy _=>Or.inl hy),(hb.u hC).mono (fun y hy _=>Or.inl hy)⟩))
theorem altf_c (a b:Cor) (va vb:Value) (F:Nat→Prop) (w:World) (ha:IsCor F w a va) (hb:IsCor F w b vb):Calls P 190 #[va,vb] w (Ret fun v w'=>Chg [] w w'∧IsCor (fun x=>F x∨w.heap.size≤x) w' (.alt a b) v):=by
 have hC:=A8 [] w;obtain ⟨pa,rfl⟩:=ha.ptr;obtain ⟨pb,rfl⟩:=hb.ptr;refine D4 Tryz.func190 J J (Qd (Zc 1 J (Qd (Z 2 J (Ca Ce2 J (By1 3 pa pb _) ?_)))));rintro v7 w1 ⟨hx1,p,hv,hp,hBn⟩;have hC:=hC.s0 hx1;exact Zc 1 J (A6 (B4 J J ⟨hC,p,_,_,hv,Or.inr hp,hBn,(ha.u hC).mono (fun y hy _=>Or.inl hy),(hb.u hC).mono (fun y hy _=>Or.inl hy)⟩))
theorem Dh9 (a:Cor) (lz:Bool) (va:Value) (F:Nat→Prop) (w:World) (ha:IsCor F w a va):Calls P 216 #[va,.bool lz] w (Ret fun v w'=>Chg [] w w'∧IsCor (fun x=>F x∨w.heap.size≤x) w' (Bc3 a lz) v):=by
 have hC:=A8 [] w;obtain ⟨pa,rfl⟩:=ha.ptr
 refine D4 Tryz.func216 J J (Qd (Zc 1 J (Qa (Qd (Zc 1 J (A4 J (fun h1=>?_) (fun h1=>?_)))))))
 ·try simp at h1
  refine Qd (C9 J (B1 Ch0 Ck1 J (by rfl)) ?_);refine B5 J (E1 J J) ?_;intro b1 w1 hb1 hs1 hx1 hB1;refine Z 1 J (Ca Ce2 J (By1 3 b1 pa _) ?_);rintro v7 w2 ⟨hx2,p,hv,hp,hBn⟩;have hC:=hC.s0 (hx1.s0 hx2);have hB1:=hB1.u hx2;refine Zc 1 J (A6 (B4 J J ?_));subst h1;exact ⟨hC,p,_,_,hv,Or.inr (by omega),hBn,⟨b1,rfl,Or.inr (by omega),by rw [Dq0];assumption⟩,(ha.u hC).mono (fun y hy _=>Or.inl hy)⟩
 ·try simp at h1
  refine A7 (Qd (Z 1 J (C9 J (B1 Ch0 Ck1 J (by rfl)) ?_)));refine B5 J (E1 J J) ?_;intro b3 w3 hb3 hs3 hx3 hB3;refine Ca Ce2 J (By1 3 pa b3 _) ?_;rintro v7 w4 ⟨hx4,p,hv,hp,hBn⟩;have hC:=hC.s0 (hx3.s0 hx4);have hB3:=hB3.u hx4;refine Zc 1 J (A6 (B4 J J ?_));subst h1;exact ⟨hC,p,_,_,hv,Or.inr (by omega),hBn,(ha.u hC).mono (fun y hy _=>Or.inl hy),⟨b3,rfl,Or.inr (by omega),by rw [Dq0];assumption⟩⟩
theorem Eg7 (a:Cor) (lz:Bool) (m:Int) (va:Value) (F:Nat→Prop) (w:World) (hm0: -1000000≤m) (hm:m≤1000000) (hF:∀ b,F b→b<w.heap.size) (ha:IsCor F w a va):Calls P 191 #[va,.int .i64 m,.bool lz] w (Ret fun v w'=>Chg [] w w'∧IsCor (fun x=>F x∨w.heap.size≤x) w' (W7 a lz (m - 1).toNat) v):=by
 have hC:=A8 [] w;obtain ⟨pa,rfl⟩:=ha.ptr;have hIa:=ha;refine D4 Tryz.func191 J J (Qd (Zc 1 J (Qd (Z 2 J (Ca fb216 J (Dh9 a lz _ F _ hIa) ?_)))));rintro v7 w1 ⟨hx1,hIo'⟩;have hC:=hC.s0 hx1;have hIa:=hIa.u hx1;have hIo:=hIo';clear hIo';obtain ⟨po,rfl⟩:=hIo.ptr
 refine Zc 1 J (Qa (Qd (Z 1 J (Su J J (by omega) (Zc 1 J (B2 (D8 (σ:=Nat × Nat) (fun (k,po)=>[(0,.pointer (some ⟨pa,0,none⟩)),(2,.bool lz),(7,.pointer (some ⟨po,0,none⟩)),(12,.int .i64 (m - 1)),(13,.int .i64 k)]) (fun (k,po) wr=>Chg [] w wr∧IsCor F wr a (.pointer (some ⟨pa,0,none⟩))∧IsCor (fun x=>F x∨w.heap.size≤x) wr (W7 a lz k) (.pointer (some ⟨po,0,none⟩))∧k≤(m - 1).toNat) (fun (k,po) wr=>(m - 1).toNat - k) (0,po) (sb J) ?_ ?_)))))))
 ·exact ⟨hC,hIa,hIo,El0 _⟩
 rintro ⟨k,po⟩ w9 ⟨hC,hIa,hIo,hk⟩
 try have hzw:=hC.size
 refine Qd (Zc 1 J (Qa (A4 J (fun h1=>?_) (fun h1=>?_))))
 ·try simp at h1
  refine A7 (Qa (B2 (Qb (Z 2 J (Ca Ce2 J (By1 2 pa po _) ?_)))));rintro v8 w2 ⟨hx2,p,hv8,hp,hBn⟩;have hz2:=hx2.size;have hIa:=hIa.u hx2;have hIo:=hIo.u hx2;subst hv8;refine Z 1 J (Ca fb216 J (Dh9 (.cat a (W7 a lz k)) lz _ (fun x=>F x∨w.heap.size≤x) _ ⟨p,_,_,rfl,Or.inr (by omega),hBn,hIa.mono (fun y hy _=>Or.inl hy),hIo⟩) ?_);rintro v9 w3 ⟨hx3,hIn⟩;have hC:=hC.s0 (hx2.s0 hx3);have hIa:=hIa.u hx3;obtain ⟨pn,rfl⟩:=hIn.ptr;refine Zc 1 J (Qb (Ad J J (by omega) (Zc 1 J ⟨(k+1,pn),sb J,?_,?_⟩)));refine ⟨hC,hIa,hIn.mono (fun y hy _=>?_),by omega⟩
  rcases hy with hy|hy
  ·exact hy
  ·right;omega
  show (m - 1).toNat - (k+1)<(m - 1).toNat - k;omega
 ·try simp at h1
  have hkk:k=(m - 1).toNat:=by omega
  subst hkk;exact Xb (Qd (Zc 2 J (A6 (B4 J J ⟨hC,hIo⟩))))
def IsCors (F:Nat→Prop) (w:World) (l:List Cor) (vs:List Value):Prop:=vs.length=l.length∧∀ k,k<l.length→∃ v,vs[k]?=some v∧IsCor F w (l.getD k .empty) v
theorem IsCors.q {F:Nat→Prop} {w w':World} {S:List Nat} {l:List Cor} {vs:List Value} (h:IsCors F w l vs) (k:Chg S w w') (hS:∀ b∈S,¬ F b):IsCors F w' l vs:=
 ⟨h.1,fun i hi=>by obtain ⟨v,h1,h2⟩:=h.2 i hi;exact ⟨v,h1,h2.q k hS⟩⟩
theorem IsCors.u {F:Nat→Prop} {w w':World} {l:List Cor} {vs:List Value} (h:IsCors F w l vs) (k:Chg [] w w'):IsCors F w' l vs:=h.q k (fun b hb=>by cases hb)
theorem IsCors.mono {F F':Nat→Prop} {w:World} {l:List Cor} {vs:List Value} (h:IsCors F w l vs) (hF:∀ b,F b→b<w.heap.size→F' b):IsCors F' w l vs:=
 ⟨h.1,fun i hi=>by obtain ⟨v,h1,h2⟩:=h.2 i hi;exact ⟨v,h1,h2.mono hF⟩⟩
theorem Bv6 (j:Cor→Cor→Cor):∀ (l:List Cor) (k:Nat),k+1<l.length→Af0 j (l.drop k)=j (l.getD k .empty) (Af0 j (l.drop (k+1)))
 |[],k,h=>by simp at h
 |[x],k,h=>by simp at h
 |x::y::r,0,h=>rfl
 |x::y::r,k+1,h=>by
  have:=Bv6 j (y::r) k (by simpa using h)
  simpa using this
theorem Bv5 (j:Cor→Cor→Cor):∀ (l:List Cor),0<l.length→Af0 j (l.drop (l.length - 1))=l.getD (l.length - 1) .empty
 |[],h=>by simp at h
 |[x],h=>rfl
 |x::y::r,h=>by
  have:=Bv5 j (y::r) (by simp)
  simpa using this
theorem fold_c (j:Cor→Cor→Cor) (G:FuncId) (hb:D3 P G=true) (hj:∀ (a b:Cor) (va vb:Value) (F:Nat→Prop) (w:World),IsCor F w a va→IsCor F w b vb→Calls P G (#[]++[va,vb].toArray++ #[]) w (Ret fun v w'=>Chg [] w w'∧IsCor (fun x=>F x∨w.heap.size≤x) w' (j a b) v))
  (l:List Cor) (vs:List Value) (F F2:Nat→Prop) (A:Option Addr) (c:Nat) (w:World) (hl:l.length≤2000000) (hF2:∀ b,F2 b→b<w.heap.size) (hr:Rd F2 w 1 A l.length vs) (hI:IsCors F w l vs):
  Calls P 188 #[.slice A l.length c,.func (.func G) #[] #[]] w (Ret fun v w'=>Chg [] w w'∧IsCor (fun x=>F x∨w.heap.size≤x) w' (Af0 j l) v):=by
 have hC:=A8 [] w
 refine D4 Tryz.func188 J J (Qd (Zc 1 J (Qa (Qd (Z 1 J (Ln Tryz.underlying251 J (Zc 1 J (A4 J (fun h1=>?_) (fun h1=>?_)))))))))
 ·try simp at h1
  refine Qd (C9 J (B1 Ch0 Ck1 J (by rfl)) ?_);refine B5 J (E1 J J) ?_;intro b1 w1 hb1 hs1 hx1 hB1;have hC:=hC.s0 hx1;have hr:=hr.u hx1;have hI:=hI.u hx1;refine Zc 1 J (A6 (B4 J J ?_));have:l=[]:=by first|exact h1|exact Es2.1 (by omega)
  subst this;exact ⟨hC,b1,rfl,Or.inr (by omega),by rw [Dq0];assumption⟩
 ·try simp at h1
  have hl0:0<l.length:=by first|omega|exact List.length_pos_iff.2 h1
  obtain ⟨v0,hv0,hi0⟩:=hI.2 (l.length - 1) (by omega);obtain ⟨g,off,rfl,_,_,_⟩:=hr.at_ hl0;obtain ⟨p0,rfl⟩:=hi0.ptr;refine A7 (Qd (Z 2 J (Ln Tryz.underlying251 J (Su J J (by omega) (C9 J (B0 Ci4 J J (by omega) (by omega)) (Lc o67 J (show _=_ from by have:=(hr.one hv0).2;rw [show l.length - 1=((l.length:Int) - 1).toNat from by omega] at this;exact this) ?_))))))
  refine Zc 1 J (Qa (Qd (Z 1 J (Ln Tryz.underlying251 J (Su J J (by omega) (Zc 1 J (B2 (D8 (σ:=Nat × Nat) (fun (k,po)=>[(0,.slice (some ⟨g,off,none⟩) l.length c),(1,.func (.func G) #[] #[]),(5,.pointer (some ⟨po,0,none⟩)),(6,.int .i64 ((k:Int) - 1))]) (fun (k,po) wr=>Chg [] w wr∧Rd F2 wr 1 (some ⟨g,off,none⟩) l.length vs∧IsCors F wr l vs∧IsCor (fun x=>F x∨w.heap.size≤x) wr (Af0 j (l.drop k)) (.pointer (some ⟨po,0,none⟩))∧k<l.length) (fun (k,po) wr=>k) (l.length - 1,p0) ⟨rfl,rfl,rfl,(G2 J (by omega)),trivial⟩ ?_ ?_))))))))
  ·exact ⟨hC,hr,hI,by rw [Bv5 j l hl0];exact hi0.mono (fun y hy _=>Or.inl hy),by omega⟩
  rintro ⟨k,po⟩ w9 ⟨hC,hr,hI,hIo,hk⟩
  try have hzw:=hC.size
  refine Qa (Qd (Zc 2 J (A4 J (fun h2=>?_) (fun h2=>?_))))
  ·try simp at h2
   obtain ⟨k,rfl⟩:∃ i,k=i+1:=⟨k - 1,by omega⟩;obtain ⟨v1,hv1,hi1⟩:=hI.2 k (by omega);obtain ⟨p1,rfl⟩:=hi1.ptr;refine A7 (Qa (B2 (Qb (Z 3 J (C9 J (B0 Ci4 J J (by omega) (by omega)) (Lc o67 J (show _=_ from by have:=(hr.one hv1).2;rw [show k=(((k+1:Nat):Int) - 1).toNat from by omega] at this;exact this) ?_))))));refine Z 1 J (P0 J (O0 J hb J) (hj (l.getD k .empty) (Af0 j (l.drop (k+1))) (.pointer (some ⟨p1,0,none⟩)) (.pointer (some ⟨po,0,none⟩)) (fun x=>F x∨w.heap.size≤x) _ (hi1.mono (fun y hy _=>Or.inl hy)) hIo) ?_);rintro v9 w2 ⟨hx2,hIn⟩;have hC:=hC.s0 hx2;have hr:=hr.u hx2;have hI:=hI.u hx2;obtain ⟨pn,rfl⟩:=hIn.ptr;refine Zc 1 J (Qb (Z 1 J (Su J J (by omega) (Zc 1 J ⟨(k,pn),⟨rfl,rfl,rfl,(G2 J (by omega)),trivial⟩,?_,?_⟩))));refine ⟨hC,hr,hI,by rw [Bv6 j l k hk];exact hIn.mono (fun y hy _=>hy.elim id (fun h=>Or.inr (by omega))),by omega⟩;show k<k+1;omega
  ·try simp at h2
   have:k=0:=by omega
   subst this;exact Xb (Qd (Zc 2 J (A6 (B4 J J ⟨hC,hIo⟩))))
theorem catl_c (l:List Cor) (vs:List Value) (F F2:Nat→Prop) (A:Option Addr) (c:Nat) (w:World) (hl:l.length≤2000000) (hF2:∀ b,F2 b→b<w.heap.size) (hr:Rd F2 w 1 A l.length vs) (hI:IsCors F w l vs):
  Calls P 158 #[.slice A l.length c] w (Ret fun v w'=>Chg [] w w'∧IsCor (fun x=>F x∨w.heap.size≤x) w' (Af0 .cat l) v):=by
 have hC:=A8 [] w;refine D4 Tryz.func158 J J (Qd (Zc 1 J (Qd (Z 1 J (Ca fb188 J (fold_c .cat 189 fb189 (fun a b va vb F w ha hb=>catf_c a b va vb F w ha hb) l vs F F2 A c _ hl hF2 hr hI) ?_)))));rintro v9 w1 ⟨hx1,hV⟩;have hC:=hC.s0 hx1;exact Zc 1 J (A6 (B4 J J ⟨hC,hV⟩))
theorem altl_c (l:List Cor) (vs:List Value) (F F2:Nat→Prop) (A:Option Addr) (c:Nat) (w:World) (hl:l.length≤2000000) (hF2:∀ b,F2 b→b<w.heap.size) (hr:Rd F2 w 1 A l.length vs) (hI:IsCors F w l vs):
  Calls P 159 #[.slice A l.length c] w (Ret fun v w'=>Chg [] w w'∧IsCor (fun x=>F x∨w.heap.size≤x) w' (Af0 .alt l) v):=by
 have hC:=A8 [] w;refine D4 Tryz.func159 J J (Qd (Zc 1 J (Qd (Z 1 J (Ca fb188 J (fold_c .alt 190 fb190 (fun a b va vb F w ha hb=>altf_c a b va vb F w ha hb) l vs F F2 A c _ hl hF2 hr hI) ?_)))));rintro v9 w1 ⟨hx1,hV⟩;have hC:=hC.s0 hx1;exact Zc 1 J (A6 (B4 J J ⟨hC,hV⟩))
theorem Bw3 {t:Syn} (h:S0 t=true):0≤t.mn∧t.mn≤1000∧(t.mx= -1∨(t.mn≤t.mx∧t.mx≤1000)):=by
 unfold S0 at h;simp at h;omega
theorem Cf1 {F:Nat→Prop} {w:World} {r:Cor} {v:Value} (h:IsCor F w r v) (n:Nat):IsCors F w (List.replicate n r) (List.replicate n v):=by
 refine ⟨by simp,fun k hk=>⟨v,?_,?_⟩⟩
 ·simp at hk;simp [hk]
 ·simp at hk;simpa [hk,Ek2] using h
theorem Bn5 {F:Nat→Prop} {w:World} {l:List Cor} {vs:List Value} {r:Cor} {v:Value} (h:IsCors F w l vs) (hr:IsCor F w r v):IsCors F w (l++[r]) (vs++[v]):=by
 refine ⟨by simp [h.1],fun k hk=>?_⟩
 rcases Eq7 k l.length with hlt|hge
 ·obtain ⟨u,h1,h2⟩:=h.2 k hlt;refine ⟨u,by rw [Em6 (by rw [h.1];exact hlt)];exact h1,?_⟩;rw [Ek2,Em6 hlt,← Ek2];exact h2
 ·have hk':k=l.length:=by simp at hk;omega
  subst hk';refine ⟨v,by rw [← h.1];simp,?_⟩
  simpa [Ek2] using hr
theorem repeat_c (t:Syn) (r:Cor) (vt vr:Value) (F FT:Nat→Prop) (w:World) (hc:S0 t=true) (hF:∀ b,F b→b<w.heap.size) (hT:IsSyn FT w t vt) (hI:IsCor F w r vr):Calls P 160 #[vt,vr] w (Ret fun v w'=>Chg [] w w'∧IsCor (fun x=>F x∨w.heap.size≤x) w' (Am9 t.mn t.mx t.lz r) v):=by
 have hC:=A8 [] w;obtain ⟨q,A1,c1,vs1,rfl,_,hB0,_,_⟩:=hT.open;obtain ⟨pr,rfl⟩:=hI.ptr;obtain ⟨hm1,hm2,hm3⟩:=Bw3 hc;have hqw:=hB0.lt;refine D4 Tryz.func160 J J (Qd (Zc 1 J (Qd (Zc 1 J (Qa (Qd (Z 2 J (Fa Af1 J (Lb o3 J ‹_› (by rfl) ?_)))))))))
 refine Zc 1 J (B2 (D8 (σ:=Nat × Option Addr × Nat) (fun (k,A,c)=>[(0,.pointer (some ⟨q,0,none⟩)),(1,.pointer (some ⟨pr,0,none⟩)),(5,.slice A k c),(9,.int .i64 t.mn),(10,.int .i64 k)]) (fun (k,A,c) wr=>Chg [] w wr∧Blk wr q (Bk3 t.kind t.set t.mn t.mx t.lz (.slice A1 t.l.length c1) t.a t.b) 254∧IsCor F wr r (.pointer (some ⟨pr,0,none⟩))∧Own wr w.heap.size 67 1 A k c (List.replicate k (.pointer (some ⟨pr,0,none⟩)))∧(k:Int)≤t.mn) (fun (k,A,c) wr=>t.mn.toNat - k) (0,none,0) (sb J) ?_ ?_))
 ·exact ⟨hC,hB0,hI,Own.nil _ _ _ _,hm1⟩
 rintro ⟨k,A,c⟩ w9 ⟨hC,hB0,hI,hO,hk⟩;have hOb:=hO.blk
 try have hzw:=hC.size
 refine Qd (Zc 1 J (Qa (A4 J (fun h1=>?_) (fun h1=>?_))))
 ·try simp at h1
  refine A7 (Qa (B2 (Qb (Z 2 J (B5 J (B7 Ci4 Tryz.underlying251 zr67 J J J (by rfl)) ?_)))));intro b1 w1 hb1 hs1 hx1 hB1;have hC:=hC.s0 hx1;have hB0:=hB0.u hx1;have hI:=hI.u hx1;have hO:=hO.u hx1;refine G1 J el251 J J hO (Blk.rd (F:=fun _=>True) ‹_› J trivial) (by rfl) (by omega) (by omega) ?_;intro A' c' w2 hO2 hx2 hA';have hC:=hC.step hx2 (by intro x h;have:=hOb x h;exact .inr (by omega));have hB0:=hB0.q hx2 (by intro h;have:=hOb _ h;omega);have hI:=hI.q hx2 (by intro x hx hf;have:=hOb x hx;have:=hF x hf;omega)
  replace hO:=hO2
  refine Zc 1 J (Qb (Ad J J (by omega) (Zc 1 J ⟨(k+1,A',c'),sb J,?_,?_⟩)));refine ⟨hC,hB0,hI,by rw [List.replicate_succ'];exact hO,by omega⟩;show t.mn.toNat - (k+1)<t.mn.toNat - k;omega
 ·try simp at h1
  have hkk:k=t.mn.toNat:=by omega
  subst hkk;have hRC:Am9 t.mn t.mx t.lz r=Af0 .cat (List.replicate t.mn.toNat r++(if t.mx= -1 then [.star t.lz r] else if t.mn<t.mx then [W7 r t.lz ((t.mx - t.mn).toNat - 1)] else [])):=rfl
  refine Xb (I3 (fun e9 wr=>∃ l vs A' c',Sub [(5,.slice A' l.length c')] e9∧Chg [] w wr∧Own wr w.heap.size 67 1 A' l.length c' vs∧IsCors (fun x=>F x∨w.heap.size≤x) wr l vs∧Am9 t.mn t.mx t.lz r=Af0 .cat l∧l.length≤2000) ?_ ?_)
  ·refine B2 (Qd (Z 2 J (Fa Aj1 J (Lb o3 J ‹_› (by rfl) ?_))))
   refine Zc 2 J (A4 J (fun g1=>?_) (fun g1=>?_))
   ·try simp at g1
    refine Qb (Z 4 J (Fa Cw3 J (Lb o4 J ‹_› (by rfl) ?_)));refine Ca fb155 J (star_c pr t.lz _) ?_;rintro v6 w3 ⟨hx3,ps,hv,hp,hBs'⟩;have hz3:=hx3.size;have hBs:=hBs';clear hBs';subst hv;refine B5 J (B7 Ci4 Tryz.underlying251 zr67 J J J (by rfl)) ?_;intro b4 w4 hb4 hs4 hx4 hB4;have hC:=hC.s0 (hx3.s0 hx4);have hI:=hI.u (hx3.s0 hx4);have hO:=hO.u (hx3.s0 hx4);have hBs:=hBs.u hx4;refine G1 J el251 J J hO (Blk.rd (F:=fun _=>True) ‹_› J trivial) (by rfl) (by omega) (by omega) ?_;intro A' c' w5 hO5 hx5 hA';have hC:=hC.step hx5 (by intro x h;have:=hOb x h;exact .inr (by omega));have hI:=hI.q hx5 (by intro x hx hf;have:=hOb x hx;have:=hF x hf;omega);have hBs:=hBs.q hx5 (by intro h;have:=hOb _ h;omega)
    replace hO:=hO5
    refine Zc 1 J ⟨List.replicate t.mn.toNat r++[.star t.lz r],List.replicate t.mn.toNat (.pointer (some ⟨pr,0,none⟩))++[.pointer (some ⟨ps,0,none⟩)],A',c',⟨(R0 J (by simp)),trivial⟩,?_⟩;refine ⟨hC,by rw [Ek5,En5];exact hO,Bn5 ((Cf1 hI _).mono (fun y hy _=>Or.inl hy)) ⟨ps,_,rfl,Or.inr (by omega),hBs,hI.mono (fun y hy _=>Or.inl hy)⟩,by rw [hRC,Ek1 g1],by simp;omega⟩
   ·try simp at g1
    refine Qa (C8 (S:=[]) 8 [(0,0),(0,1),(0,2),(0,3),(0,4),(0,5),(0,6),(0,7),(2,8),(2,9)] mo (by kernel_rfl) ?_);intro w6 hx6 hh6;have hC:=hC.s0 hx6;have hB0:=hB0.u hx6;have hI:=hI.u hx6;have hO:=hO.u hx6;refine Z 2 J (Fa Aj1 J (D6 J (B3 o3 J ‹_› (by simp;done) (by rfl)) ?_));refine Z 2 J (Fa Af1 J (D6 J (B3 o3 J ‹_› (by simp;done) (by rfl)) ?_))
    refine Zc 2 J (A4 J (fun g2=>?_) (fun g2=>?_))
    ·try simp at g2
     refine C8 (S:=[]) 17 [(0,0),(0,1),(0,2),(0,3),(0,4),(0,5),(0,6),(0,7),(0,8),(0,9),(0,10),(0,11),(0,12),(0,13),(0,14),(1,15),(1,16),(2,17),(2,18)] mo (by kernel_rfl) ?_;intro w7 hx7 hh7;have hB0:=hB0.u hx7;have hI:=hI.u hx7;have hCS7:=A8 ([]) w7;refine Z 4 J (Fa Aj1 J (D6 J (B3 o3 J ‹_› (by simp;done) (by rfl)) ?_));refine Z 2 J (Fa Af1 J (D6 J (B3 o3 J ‹_› (by simp;done) (by rfl)) ?_));refine Su J J (by omega) (Z 2 J (Fa Cw3 J (D6 J (B3 o4 J ‹_› (by simp;done) (by rfl)) ?_)));refine C5 J (C3 fb191 J) (Eg7 r t.lz (t.mx - t.mn) _ F _ (by omega) (by omega) (fun y hy=>by have:=hF y hy;omega) ‹_›) ?_;rintro v6 w8 ⟨hx8,hIo'⟩;have hz8:=hx8.size;have hCS7:=hCS7.s0 hx8;have hIo:=hIo';clear hIo';refine ⟨hCS7,?_⟩;obtain ⟨po,rfl⟩:=hIo.ptr;refine E2 J (B7 Ci4 Tryz.underlying251 zr67 J J J (by rfl)) ?_;intro b9 w9 hb9 hs9 hx9 hB9;have hC:=hC.s0 ((hx7.s0 hx8).s0 hx9);have hI:=hI.u (hx8.s0 hx9);have hO:=hO.u ((hx7.s0 hx8).s0 hx9);have hCS7:=hCS7.s0 hx9;have hIo:=hIo.u hx9;refine ⟨hCS7,?_⟩;refine G1 J el251 J J hO (Blk.rd (F:=fun _=>True) ‹_› J trivial) (by rfl) (by omega) (by omega) ?_;intro A' c' w10 hO10 hx10 hA';have hC:=hC.step hx10 (by intro x h;have:=hOb x h;exact .inr (by omega));have hI:=hI.q hx10 (by intro x hx hf;have:=hOb x hx;have:=hF x hf;omega);have hIo:=hIo.q hx10 (by intro x hx hf;have:=hOb x hx;rcases hf with hf|hf;have:=hF x hf;omega;omega)
     replace hO:=hO10
     refine Zc 1 J ⟨List.replicate t.mn.toNat r++[W7 r t.lz ((t.mx - t.mn).toNat - 1)],List.replicate t.mn.toNat (.pointer (some ⟨pr,0,none⟩))++[.pointer (some ⟨po,0,none⟩)],A',c',⟨(R0 J (by simp)),trivial⟩,?_⟩;refine ⟨hC,by rw [Ek5,En5];exact hO,Bn5 ((Cf1 hI _).mono (fun y hy _=>Or.inl hy)) ?_,by rw [hRC,Ek0 g1,Ek1 (by omega)],by simp;omega⟩;rw [show (t.mx - t.mn).toNat - 1=(t.mx - t.mn - 1).toNat from by omega];exact hIo.mono (fun y hy _=>hy.elim Or.inl (fun h=>Or.inr (by omega)))
    ·try simp at g2
     refine A7 ⟨List.replicate t.mn.toNat r,List.replicate t.mn.toNat (.pointer (some ⟨pr,0,none⟩)),A,c,⟨(R0 J (by simp)),trivial⟩,?_⟩;exact ⟨hC,by simpa using hO,(Cf1 hI _).mono (fun y hy _=>Or.inl hy),by rw [hRC,Ek0 g1,Ek0 (by omega),Ep1],by simp;omega⟩
  rintro e9 w8 ⟨l,vs,A',c',hs9,hC,hO,hIl,hRC2,hll⟩;refine I2 _ hs9 ?_;clear hs9 e9
  try have hzw:=hC.size
  rw [hRC2];refine Qd (Z 1 J (Ca fb158 J (catl_c l vs (fun x=>F x∨w.heap.size≤x) (fun x=>w.heap.size≤x∧x<w8.heap.size) A' c' _ (by omega) (fun y hy=>hy.2) (hO.rd (fun y h1 h2=>⟨h1,h2⟩)) hIl) ?_));rintro v9 w11 ⟨hx11,hV⟩;have hC:=hC.s0 hx11;exact Zc 1 J (A6 (B4 J J ⟨hC,hV.mono (fun y hy _=>hy.elim id (fun h=>Or.inr (by omega)))⟩))
def Dj5 (t:Syn):Prop:=∀ (v:Value) (FT:Nat→Prop) (w:World),(∀ b,FT b→b<w.heap.size)→IsSyn FT w t v→Calls P 131 #[v] w (Ret fun u w'=>Chg [] w w'∧IsCor (FR w.heap.size w'.heap.size []) w' (Ah1 t) u)
theorem Bw9:∀ (l:List Syn),(N2 l).length=l.length
 |[]=>rfl
 |t::r=>by rw [N2,En2,En2,Bw9 r]
theorem Bx0:∀ (l:List Syn) (k:Nat),k<l.length→(N2 l).getD k .empty=Ah1 (l.getD k default)
 |[],k,h=>by simp at h
 |t::r,0,_=>rfl
 |t::r,k+1,h=>by rw [N2,El9,El9];exact Bx0 r k (by simpa using h)
theorem Dt5 {l:List Cor} {k:Nat} (h:k<l.length):l.take (k+1)=l.take k++[l.getD k .empty]:=by
 rw [Ep9,Ek4 h,Ek2,Ek4 h];rfl
theorem build_eq (t:Syn):Ah1 t=if t.kind=1 then .set t.set
  else if t.kind=2∨t.kind=3 then (N2 t.l).headD .empty
  else if t.kind=4 then Af0 .cat (N2 t.l)
  else if t.kind=5 then Af0 .alt (N2 t.l)
  else if t.kind=6 then Am9 t.mn t.mx t.lz ((N2 t.l).headD .empty)
  else .empty:=by
 cases t with|node k s mn mx lz l a b=>rw [Ah1];rfl
theorem Dq5 (t:Syn) (hf:Au2 t=true) (hll:t.l.length≤2000000) (hc:∀ k,k<t.l.length→Dj5 (t.l.getD k default)):Dj5 t:=by
 intro v FT w hFT hT;have hC:=A8 [] w;obtain ⟨q,A1,c1,vs1,rfl,_,hB0,hr,hIs⟩:=hT.open;have hF:=hFT;have hbl:=Bw9 t.l
 try have hlB0:=hB0.lt
 refine D4 Tryz.func131 J J (Qd (Zc 1 J (Qd (Zc 1 J (Qa (Qd (Z 2 J (Fa Y1 J (Lb Dm1 J ‹_› (by rfl) ?_)))))))))
 refine Ln Tryz.underlying241 J (Zc 1 J (B2 (D8 (σ:=Nat × Option Addr × Nat × List Value) (fun (k,A,c,vs)=>[(0,.pointer (some ⟨q,0,none⟩)),(3,.slice A k c),(9,.slice A1 t.l.length c1),(10,.int .i64 t.l.length),(11,.int .i64 k)]) (fun (k,A,c,vs) wr=>Chg [] w wr∧IsSyn FT wr t (.pointer (some ⟨q,0,none⟩))∧Blk wr q (Bk3 t.kind t.set t.mn t.mx t.lz (.slice A1 t.l.length c1) t.a t.b) 254∧Rd FT wr 1 A1 t.l.length vs1∧IsSyns FT wr t.l vs1∧Own wr w.heap.size 67 1 A k c vs∧IsCors (FR w.heap.size wr.heap.size (F7 A)) wr ((N2 t.l).take k) vs∧k≤t.l.length) (fun (k,A,c,vs) wr=>t.l.length - k) (0,none,0,[]) (sb J) ?_ ?_)))
 ·exact ⟨hC,hT,hB0,hr,hIs,Own.nil _ _ _ _,⟨rfl,fun k hk=>absurd hk (by simp)⟩,El0 _⟩
 rintro ⟨k,A,c,vs⟩ w9 ⟨hC,hT,hB0,hr,hIs,hO,hIc,hk⟩;have hOb:=hO.blk
 try have hzw:=hC.size
 try have hlB0:=hB0.lt
 refine Qd (Zc 1 J (Qa (A4 J (fun h1=>?_) (fun h1=>?_))))
 ·try simp at h1
  have hkn:k<t.l.length:=by omega
  obtain ⟨v0,hv0,hi0⟩:=hIs.get k hkn;obtain ⟨g,off,rfl,_,_,_⟩:=hr.at_ (by omega);refine A7 (Qa (B2 (Qd (C9 J (B0 Am1 J J (by omega) (by omega)) (Lc Bb4 J (hr.one hv0).2 (Zc 1 J (Qb (Z 2 J (Ca fb131 J (hc k hkn v0 FT _ (fun y hy=>by have:=hFT y hy;omega) hi0) ?_)))))))));rintro v8 w1 ⟨hx1,hIv'⟩;have hz1:=hx1.size;have hIv:=hIv';clear hIv';obtain ⟨pv,rfl⟩:=hIv.ptr;refine B5 J (B7 Ci4 Tryz.underlying251 zr67 J J J (by rfl)) ?_;intro b2 w2 hb2 hs2 hx2 hB2;have hC:=hC.s0 (hx1.s0 hx2);have hT:=hT.u (hx1.s0 hx2);have hB0:=hB0.u (hx1.s0 hx2);have hr:=hr.u (hx1.s0 hx2);have hIs:=hIs.u (hx1.s0 hx2);have hO:=hO.u (hx1.s0 hx2);have hIc:=hIc.u (hx1.s0 hx2);have hIv:=hIv.u hx2;refine G1 J el251 J J hO (Blk.rd (F:=fun _=>True) ‹_› J trivial) (by rfl) (by omega) (by omega) ?_;intro A' c' w3 hO3 hx3 hA';have hC:=hC.step hx3 (by intro x h;have:=hOb x h;exact .inr (by omega));have hT:=hT.q hx3 (by intro x hx hf;have:=hOb x hx;have:=hF x hf;omega);have hB0:=hB0.q hx3 (by intro h;have:=hOb _ h;omega);have hr:=hr.q hx3 (by intro x hx hf;have:=hOb x hx;have:=hF x hf;omega);have hIs:=hIs.q hx3 (by intro x hx hf;have:=hOb x hx;have:=hF x hf;omega);have hIc:=hIc.q hx3 (by intro x hx hf;exact hf.2.2 hx);have hIv:=hIv.q hx3 (by intro x hx hf;have:=hOb x hx;have h1:=hf.1;have h2:=hf.2.1;omega)
  replace hO:=hO3
  refine Zc 1 J (Qb (Ad J J (by omega) (Zc 1 J ⟨(k+1,A',c',vs++[.pointer (some ⟨pv,0,none⟩)]),sb J,?_,?_⟩)));refine ⟨hC,hT,hB0,hr,hIs,hO,?_,by omega⟩;rw [Dt5 (by omega)];refine Bn5 (hIc.mono (fun y hy _=>⟨hy.1,by have:=hy.2.1;omega,X1 hA' hy.2.2 (by have:=hy.2.1;omega)⟩)) ?_;rw [Bx0 _ _ hkn];exact hIv.mono (fun y hy _=>⟨by have:=hy.1;omega,by have:=hy.2.1;omega,X1 hA' (fun hm=>by have:=hOb y hm;have:=hy.1;omega) (by have:=hy.2.1;omega)⟩);show t.l.length - (k+1)<t.l.length - k;omega
 ·try simp at h1
  have hkk:k=t.l.length:=by omega
  subst hkk;rw [En0 (by omega)] at hIc;have hrv:Rd (FR w.heap.size w9.heap.size []) w9 1 A t.l.length vs:=hO.rd (fun y h1 h2=>⟨h1,h2,by simp⟩);have hIl:=hIc.mono (F':=FR w.heap.size w9.heap.size []) (fun y hy _=>⟨hy.1,hy.2.1,by simp⟩);have hkq:Ad4 t=true:=by unfold Au2 at hf;simp only [Ek6] at hf;exact hf.2.2
  rw [build_eq];refine Xb (Qa (Qd (Z 2 J (Fa Af2 J (Lb o3 J ‹_› (by rfl) ?_)))))
  refine Qc (B2 (Qd (Zc 2 J (A4 J (fun a1=>?_) (fun a1=>?_)))))
  ·try simp at a1
   refine Qd (Z 2 J (Fa Ed1 J (La J0 J ‹_› (by rfl) J ?_)));refine C9 J (B1 Ch0 Ck1 J (by rfl)) ?_;refine B5 J (E1 J J) ?_;intro b4 w4 hb4 hs4 hx4 hB4;have hC:=hC.s0 hx4;refine Zc 1 J (A6 (B4 J J ?_));rw [Ek1 a1];exact ⟨hC,_,rfl,⟨by omega,by omega,by simp⟩,by assumption⟩
  ·try simp at a1
   rw [Ek0 a1]
   have hone:t.kind=2∨t.kind=3∨t.kind=6→t.l.length=1:=fun h=>by
    unfold Ad4 at hkq;rw [Ek0 (by omega)] at hkq
    by_cases h23:t.kind=2∨t.kind=3
    ·rw [Ek1 h23] at hkq;simpa using hkq
    ·rw [Ek0 h23,Ek0 (by omega),Ek0 (by omega),Ek1 (by omega)] at hkq;simp only [Ek6,Em0] at hkq;exact hkq.1
   have hcnt:t.kind=6→S0 t=true:=fun h=>by
    unfold Ad4 at hkq;rw [Ek0 (by omega),Ek0 (by omega),Ek0 (by omega),Ek0 (by omega),Ek1 h] at hkq;simp only [Ek6] at hkq;exact hkq.2.1
   have hhd:t.l.length=1→∃ g off p0,A=some ⟨g,off,none⟩∧vs[0]?=some (.pointer (some ⟨p0,0,none⟩))∧IsCor (FR w.heap.size w9.heap.size []) w9 ((N2 t.l).headD .empty) (.pointer (some ⟨p0,0,none⟩)):=fun h=>by
    obtain ⟨g,off,hA,_,_,_⟩:=hrv.at_ (by omega);obtain ⟨u,hu,hiu⟩:=hIl.2 0 (by omega);obtain ⟨p0,rfl⟩:=hiu.ptr;refine ⟨g,off,p0,hA,hu,?_⟩;rw [show (N2 t.l).headD .empty=(N2 t.l).getD 0 .empty from by cases N2 t.l<;>rfl];exact hiu
   refine I3 (fun e9 wr=>Sub [(0,.pointer (some ⟨q,0,none⟩)),(3,.slice A t.l.length c),(24,.int .i64 t.kind),(33,.bool (decide (t.kind=2∨t.kind=3)))] e9∧wr=w9∧Chg [] w wr) ?_ ?_
   ·refine Qd (Zc 2 J (A4 J (fun a2=>?_) (fun a2=>?_)))
    ·try simp at a2
     refine A7 ⟨⟨rfl,rfl,rfl,(H3 J (by rw [El4,cmpB_eql,El7];omega)),trivial⟩,?_⟩;exact ⟨rfl,hC⟩
    ·try simp at a2
     refine Qb (Zc 2 J ⟨⟨rfl,rfl,rfl,(H3 J (by rw [El4,cmpB_eql,El7];omega)),trivial⟩,?_⟩);exact ⟨rfl,hC⟩
   rintro e9 w8 ⟨hs9,rfl,hC⟩;refine I2 _ hs9 ?_;clear hs9 e9
   refine A4 J (fun a3=>?_) (fun a3=>?_)
   ·try simp at a3
    obtain ⟨g,off,p0,rfl,hv0,hi0⟩:=hhd (hone (by omega));have hl1:=hone (by omega);refine Qd (Z 1 J (C9 J (B0 Ci4 J J (by omega) (by omega)) (Lc o67 J (hrv.one hv0).2 (Zc 1 J (A6 (B4 J J ?_))))));rw [Ek1 a3];exact ⟨hC,hi0⟩
   ·try simp at a3
    rw [Ek0 (by omega)]
    refine Qd (Zc 2 J (A4 J (fun a4=>?_) (fun a4=>?_)))
    ·try simp at a4
     refine Qd (Z 1 J (Ca fb158 J ((show Calls P 158 #[.slice A t.l.length c] w8 _ from hbl ▸ catl_c (N2 t.l) vs (FR w.heap.size w8.heap.size []) (FR w.heap.size w8.heap.size []) A c w8 (by omega) (fun y hy=>hy.2.1) (hbl.symm ▸ hrv) hIl)) ?_));rintro v9 w5 ⟨hx5,hV⟩;have hC:=hC.s0 hx5;refine Zc 1 J (A6 (B4 J J ?_));rw [Ek1 a4];exact ⟨hC,hV.mono (fun y hy hyl=>⟨hy.elim (fun h=>h.1) (fun h=>by omega),hyl,by simp⟩)⟩
    ·try simp at a4
     rw [Ek0 a4]
     refine Qd (Zc 2 J (A4 J (fun a5=>?_) (fun a5=>?_)))
     ·try simp at a5
      refine Qd (Z 1 J (Ca fb159 J ((show Calls P 159 #[.slice A t.l.length c] w8 _ from hbl ▸ altl_c (N2 t.l) vs (FR w.heap.size w8.heap.size []) (FR w.heap.size w8.heap.size []) A c w8 (by omega) (fun y hy=>hy.2.1) (hbl.symm ▸ hrv) hIl)) ?_));rintro v9 w6 ⟨hx6,hV⟩;have hC:=hC.s0 hx6;refine Zc 1 J (A6 (B4 J J ?_));rw [Ek1 a5];exact ⟨hC,hV.mono (fun y hy hyl=>⟨hy.elim (fun h=>h.1) (fun h=>by omega),hyl,by simp⟩)⟩
     ·try simp at a5
      rw [Ek0 a5]
      refine Qd (Zc 2 J (A4 J (fun a6=>?_) (fun a6=>?_)))
      ·try simp at a6
       obtain ⟨g,off,p0,rfl,hv0,hi0⟩:=hhd (hone (by omega));have hl1:=hone (by omega);refine Qd (Z 2 J (C9 J (B0 Ci4 J J (by omega) (by omega)) (Lc o67 J (hrv.one hv0).2 (Ca fb160 J (repeat_c t ((N2 t.l).headD .empty) _ _ (FR w.heap.size w8.heap.size []) FT w8 (hcnt a6) (fun y hy=>hy.2.1) hT hi0) ?_))));rintro v9 w7 ⟨hx7,hV⟩;have hC:=hC.s0 hx7;refine Zc 1 J (A6 (B4 J J ?_));rw [Ek1 a6];exact ⟨hC,hV.mono (fun y hy hyl=>⟨hy.elim (fun h=>h.1) (fun h=>by omega),hyl,by simp⟩)⟩
      ·try simp at a6
       rw [Ek0 a6];refine A7 (Qd (C9 J (B1 Ch0 Ck1 J (by rfl)) ?_));refine B5 J (E1 J J) ?_;intro b8 w8 hb8 hs8 hx8 hB8;have hC:=hC.s0 hx8;exact Zc 1 J (A6 (B4 J J ⟨hC,_,rfl,⟨by omega,by omega,by simp⟩,by rw [Dq0];assumption⟩))
def Av6 (l:List Int):Int:=l.foldl W1 0
theorem X7 (l:List Int):0≤Av6 l∧Av6 l≤9223372036854775807:=by
 unfold Av6
 rcases List.eq_nil_or_concat l with rfl|⟨r,x,rfl⟩
 ·simp
 ·rw [List.concat_eq_append,En9];exact M8 _ _
theorem As9 (l:List Int) (hl:∀ x∈l,x≤9223372036854775807):0≤Ar4 l∧Ar4 l≤9223372036854775807:=by
 unfold Ar4
 split
 ·omega
 ·rcases List.eq_nil_or_concat l with rfl|⟨r,x,rfl⟩
  ·simp
  ·rw [List.concat_eq_append,En9];exact V3 _ _
theorem Az9 (l:List Int) (b n:Nat) (cs:List Value) (τ:TypeId) (w:World) (hB:Blk w b cs τ) (hcs:cs=I8 l) (hl:∀ x∈l,x≤9223372036854775807) (hn:l.length≤1000000):Calls P 46 #[.slice (some ⟨b,0,none⟩) l.length n] w (Ret fun v w'=>v= .int .i64 (Av6 l)∧w'=w):=
 nAdd_c (fun x=>x=b) l _ l.length n hl (by omega) w (Cb7 hB hcs)
theorem De1 (l:List Int) (b n:Nat) (cs:List Value) (τ:TypeId) (w:World) (hB:Blk w b cs τ) (hcs:cs=I8 l) (hl:∀ x∈l,x≤9223372036854775807) (hn:l.length≤1000000):Calls P 84 #[.slice (some ⟨b,0,none⟩) l.length n] w (Ret fun v w'=>v= .int .i64 (Ar4 l)∧w'=w):=
 nMul_c (fun x=>x=b) l _ l.length n hl (by omega) w (Cb7 hB hcs)
def Ac5 (l:List Int):Int:=if l.length=0 then 1 else Av6 [Av6 l,(l.length:Int) - 1]
theorem folded_c (l:List Int) (F:Nat→Prop) (A:Option Addr) (c:Nat) (w:World) (hl:∀ x∈l,x≤9223372036854775807) (hn:l.length≤2000000) (hr:Rd F w 1 A l.length (I8 l)):Calls P 186 #[.slice A l.length c] w (Ret fun v w'=>v= .int .i64 (Ac5 l)∧Chg [] w w'):=by
 have hC:=A8 [] w;have hsr:=X7 l
 refine D4 Tryz.func186 J J (Qd (Zc 1 J (Qa (Qd (Z 1 J (Ln Tryz.underlying24 J (Zc 1 J (A4 J (fun h1=>?_) (fun h1=>?_)))))))))
 ·try simp at h1
  refine Qd (Zc 1 J (A6 (B4 J J ?_)));have:l.length=0:=by first|omega|(rw [h1];rfl)
  exact ⟨J4 (by unfold Ac5;rw [Ek1 this]),hC⟩
 ·try simp at h1
  have hne:¬ l.length=0:=by first|omega|(intro h;exact h1 (Es2.1 h))
  refine A7 (Qd (Z 1 J (Ca fb215 J (nSum_c F l A l.length c hl (by omega) _ hr) ?_)));rintro _ _ ⟨rfl,rfl⟩;refine Z 1 J (Ln Tryz.underlying24 J (Su J J (by omega) (B5 J (B7 T8 Tryz.underlying24 zr3 J J J (by rfl)) ?_)));intro b2 w2 hb2 hs2 hx2 hB2;have hz2:=hx2.size;have hC:=hC.s0 hx2;refine Ca fb46 J (Az9 [Av6 l,(l.length:Int) - 1] _ _ _ _ _ ‹_› J (by intro x hx;simp at hx;omega) (by simp)) ?_;rintro _ _ ⟨rfl,rfl⟩;exact Zc 1 J (A6 (B4 J J ⟨J4 (by unfold Ac5;rw [Ek0 hne]),hC⟩))
def Ak6 (mn mx size:Int):Int × Int:=if mx= -1 then (Av6 [size,1],mn+1) else if 0<mx - mn then (Av6 [Ar4 [mx - mn,Av6 [size,2]],mx - mn - 1],mn+1) else (0,mn)
def U3 (mn mx size:Int):Int:=if (Ak6 mn mx size).2=0 then 1 else Av6 [Ar4 [mn,size],(Ak6 mn mx size).1,(Ak6 mn mx size).2 - 1]
theorem Dl0 (t:Syn) (size:Int) (v:Value) (F:Nat→Prop) (w:World) (hs:0≤size∧size≤9223372036854775807) (hc:S0 t=true) (hT:IsSyn F w t v):Calls P 187 #[v,.int .i64 size] w (Ret fun u w'=>u= .int .i64 (U3 t.mn t.mx size)∧Chg [] w w'):=by
 have hC:=A8 [] w;obtain ⟨q,A1,c1,vs1,rfl,_,hB0,_,_⟩:=hT.open;obtain ⟨hm1,hm2,hm3⟩:=Bw3 hc;refine D4 Tryz.func187 J J (Qd (Zc 1 J (Qa (C8 (S:=[]) 5 [(0,0),(0,1),(0,2),(0,3),(0,4),(2,5)] mo (by kernel_rfl) ?_))));intro w1 hx1 hh1;have hC:=hC.s0 hx1;have hB0:=hB0.u hx1;refine Z 2 J (Fa Af1 J (D6 J (B3 o3 J ‹_› (by simp;done) (by rfl)) ?_))
 refine Zc 2 J (I3 (fun e9 wr=>Sub [(0,.pointer (some ⟨q,0,none⟩)),(1,.int .i64 size),(5,.int .i64 (Ak6 t.mn t.mx size).1),(6,.int .i64 (Ak6 t.mn t.mx size).2)] e9∧Chg [] w wr∧Blk wr q (Bk3 t.kind t.set t.mn t.mx t.lz (.slice A1 t.l.length c1) t.a t.b) 254∧(Ak6 t.mn t.mx size).1≤9223372036854775807∧0≤(Ak6 t.mn t.mx size).2∧(Ak6 t.mn t.mx size).2≤2000) ?_ ?_)
 ·refine Qa (C8 (S:=[]) 8 [(0,0),(0,1),(0,2),(0,3),(0,4),(0,5),(0,6),(0,7),(2,8),(2,9)] mo (by kernel_rfl) ?_);intro w2 hx2 hh2;have hC:=hC.s0 hx2;have hB0:=hB0.u hx2;refine Z 2 J (Fa Aj1 J (D6 J (B3 o3 J ‹_› (by simp;done) (by rfl)) ?_));refine Z 2 J (Fa Af1 J (D6 J (B3 o3 J ‹_› (by simp;done) (by rfl)) ?_));refine Su J J (by omega) (Zc 1 J (B2 (Qd (Z 2 J (Fa Aj1 J (Lb o3 J ‹_› (by rfl) ?_))))))
  refine Zc 2 J (A4 J (fun g1=>?_) (fun g1=>?_))
  ·try simp at g1
   have hE:Ak6 t.mn t.mx size=(Av6 [size,1],t.mn+1):=by unfold Ak6;rw [Ek1 g1]
   have hr1:=X7 [size,1];refine Qb (Z 1 J (B5 J (B7 T8 Tryz.underlying24 zr3 J J J (by rfl)) ?_));intro b3 w3 hb3 hs3 hx3 hB3;have hz3:=hx3.size;have hC:=hC.s0 hx3;have hB0:=hB0.u hx3;refine Ca fb46 J (Az9 [size,1] _ _ _ _ _ ‹_› J (by intro x hx;simp at hx;omega) (by simp)) ?_;rintro _ _ ⟨rfl,rfl⟩;refine Z 1 J (Ad J J (by omega) (Zc 2 J ⟨⟨rfl,rfl,(G2 J (by rw [hE])),(G2 J (by rw [hE])),trivial⟩,?_⟩));rw [hE];exact ⟨hC,hB0,hr1.2,by show 0≤t.mn+1;omega,by show t.mn+1≤2000;omega⟩
  ·try simp at g1
   refine Qd (Zc 3 J (A4 J (fun g2=>?_) (fun g2=>?_)))
   ·try simp at g2
    have hE:Ak6 t.mn t.mx size=(Av6 [Ar4 [t.mx - t.mn,Av6 [size,2]],t.mx - t.mn - 1],t.mn+1):=by unfold Ak6;rw [Ek0 g1,Ek1 (by omega)]
    have hr1:=X7 [size,2];have hr2:=As9 [t.mx - t.mn,Av6 [size,2]] (by intro x hx;simp at hx;omega);have hr3:=X7 [Ar4 [t.mx - t.mn,Av6 [size,2]],t.mx - t.mn - 1];refine Qb (Z 2 J (B5 J (B7 T8 Tryz.underlying24 zr3 J J J (by rfl)) ?_));intro b5 w5 hb5 hs5 hx5 hB5;have hz5:=hx5.size;refine Ca fb46 J (Az9 [size,2] _ _ _ _ _ ‹_› J (by intro x hx;simp at hx;omega) (by simp)) ?_;rintro _ _ ⟨rfl,rfl⟩;refine B5 J (B7 T8 Tryz.underlying24 zr3 J J J (by rfl)) ?_;intro b7 w7 hb7 hs7 hx7 hB7;have hz7:=hx7.size;refine Ca fb84 J (De1 [t.mx - t.mn,Av6 [size,2]] _ _ _ _ _ ‹_› J (by intro x hx;simp at hx;omega) (by simp)) ?_;rintro _ _ ⟨rfl,rfl⟩;refine Z 1 J (Su J J (by omega) (B5 J (B7 T8 Tryz.underlying24 zr3 J J J (by rfl)) ?_));intro b9 w9 hb9 hs9 hx9 hB9;have hz9:=hx9.size;have hC:=hC.s0 ((hx5.s0 hx7).s0 hx9);have hB0:=hB0.u ((hx5.s0 hx7).s0 hx9);have hB5:=hB5.u (hx7.s0 hx9);have hB7:=hB7.u hx9;refine Ca fb46 J (Az9 [Ar4 [t.mx - t.mn,Av6 [size,2]],t.mx - t.mn - 1] _ _ _ _ _ ‹_› J (by intro x hx;simp at hx;omega) (by simp)) ?_;rintro _ _ ⟨rfl,rfl⟩;refine Z 1 J (Ad J J (by omega) (Zc 2 J ⟨⟨rfl,rfl,(G2 J (by rw [hE])),(G2 J (by rw [hE])),trivial⟩,?_⟩));rw [hE];exact ⟨hC,hB0,hr3.2,by show 0≤t.mn+1;omega,by show t.mn+1≤2000;omega⟩
   ·try simp at g2
    have hE:Ak6 t.mn t.mx size=(0,t.mn):=by unfold Ak6;rw [Ek0 g1,Ek0 (by omega)]
    refine A7 ⟨⟨rfl,rfl,(G2 J (by rw [hE])),(G2 J (by rw [hE])),trivial⟩,?_⟩;rw [hE];exact ⟨hC,hB0,by show (0:Int)≤_;omega,hm1,by show t.mn≤2000;omega⟩
 rintro e9 w9 ⟨hs9,hC,hB0,hb1,hb2,hb3⟩;refine I2 _ hs9 ?_;clear hs9 e9;unfold U3;generalize Ak6 t.mn t.mx size=tp at*
 refine Qa (Qd (Zc 2 J (A4 J (fun g3=>?_) (fun g3=>?_))))
 ·try simp at g3
  exact Qd (Zc 1 J (A6 (B4 J J ⟨J4 (by rw [Ek1 g3]),hC⟩)))
 ·try simp at g3
  have hr4:=As9 [t.mn,size] (by intro x hx;simp at hx;omega);refine A7 (Qd (Z 2 J (Fa Af1 J (Lb o3 J ‹_› (by rfl) ?_))));refine Z 1 J (B5 J (B7 T8 Tryz.underlying24 zr3 J J J (by rfl)) ?_);intro b11 w11 hb11 hs11 hx11 hB11;have hz11:=hx11.size;refine Ca fb84 J (De1 [t.mn,size] _ _ _ _ _ ‹_› J (by intro x hx;simp at hx;omega) (by simp)) ?_;rintro _ _ ⟨rfl,rfl⟩;refine Z 2 J (Su J J (by omega) (B5 J (B7 T8 Tryz.underlying24 zr3 J J J (by rfl)) ?_));intro b13 w13 hb13 hs13 hx13 hB13;have hz13:=hx13.size;have hC:=hC.s0 (hx11.s0 hx13);have hB0:=hB0.u (hx11.s0 hx13);have hB11:=hB11.u hx13;refine Ca fb46 J (Az9 [Ar4 [t.mn,size],tp.1,tp.2 - 1] _ _ _ _ _ ‹_› J (by intro x hx;simp at hx;omega) (by simp)) ?_;rintro _ _ ⟨rfl,rfl⟩;exact Zc 1 J (A6 (B4 J J ⟨J4 (by rw [Ek0 g3]),hC⟩))
mutual
def T0:Syn→Int
 | .node k s mn mx lz l a b=>if k=2∨k=3 then (H2 l).headD 0 else if k=4∨k=5 then Ac5 (H2 l) else if k=6 then U3 mn mx ((H2 l).headD 0) else 1
def H2:List Syn→List Int
 |[]=>[]
 |t::r=>T0 t::H2 r
end
theorem Cc7 (l:List Int):0≤Ac5 l∧Ac5 l≤9223372036854775807:=by
 unfold Ac5
 split
 ·omega
 ·exact X7 _
theorem Bj2 (mn mx size:Int):0≤U3 mn mx size∧U3 mn mx size≤9223372036854775807:=by
 unfold U3
 split
 ·omega
 ·exact X7 _
mutual
theorem Y7:∀ t:Syn,0≤T0 t∧T0 t≤9223372036854775807
 | .node k s mn mx lz l a b=>by
  unfold T0
  split
  ·cases l with
   |nil=>simp [H2]
   |cons t r=>simp only [H2,List.headD_cons];exact Y7 t
  ·split
   ·exact Cc7 _
   ·split
    ·exact Bj2 _ _ _
    ·omega
theorem Ae9:∀ (l:List Syn),∀ x∈H2 l,0≤x∧x≤9223372036854775807
 |[],x,hx=>by simp [H2] at hx
 |t::r,x,hx=>by
  simp only [H2,Eo4] at hx
  rcases hx with rfl|hx
  ·exact Y7 t
  ·exact Ae9 r x hx
end
theorem An9:∀ (l:List Syn),(H2 l).length=l.length
 |[]=>rfl
 |t::r=>by rw [H2,En2,En2,An9 r]
theorem Be1:∀ (l:List Syn) (k:Nat),k<l.length→(H2 l).getD k 0=T0 (l.getD k default)
 |[],k,h=>by simp at h
 |t::r,0,_=>rfl
 |t::r,k+1,h=>by rw [H2,El9,El9];exact Be1 r k (by simpa using h)
theorem Dn1 (t:Syn):T0 t=if t.kind=2∨t.kind=3 then (H2 t.l).headD 0 else if t.kind=4∨t.kind=5 then Ac5 (H2 t.l) else if t.kind=6 then U3 t.mn t.mx ((H2 t.l).headD 0) else 1:=by
 cases t with|node k s mn mx lz l a b=>rw [T0];rfl
theorem Eb6 {l:List Int} {k:Nat} (h:k<l.length):I8 (l.take (k+1))=I8 (l.take k)++[.int .i64 (l.getD k 0)]:=by
 rw [Ep9,Ek4 h,Ek2,Ek4 h];unfold I8;rw [Eo8]
 rfl
theorem Df0 {t:Syn} (hkq:Ad4 t=true) (h:t.kind=2∨t.kind=3∨t.kind=6):t.l.length=1:=by
 unfold Ad4 at hkq;rw [Ek0 (by omega)] at hkq
 by_cases h23:t.kind=2∨t.kind=3
 ·rw [Ek1 h23] at hkq;simpa using hkq
 ·rw [Ek0 h23,Ek0 (by omega),Ek0 (by omega),Ek1 (by omega)] at hkq;simp only [Ek6,Em0] at hkq;exact hkq.1
theorem kids_cnt {t:Syn} (hkq:Ad4 t=true) (h:t.kind=6):S0 t=true:=by
 unfold Ad4 at hkq;rw [Ek0 (by omega),Ek0 (by omega),Ek0 (by omega),Ek0 (by omega),Ek1 h] at hkq;simp only [Ek6] at hkq;exact hkq.2.1
theorem Ec3 {t:Syn} (hf:Au2 t=true):Ad4 t=true:=by unfold Au2 at hf;simp only [Ek6] at hf;exact hf.2.2
def MeasC (t:Syn):Prop:=∀ (v:Value) (FT:Nat→Prop) (w:World),(∀ b,FT b→b<w.heap.size)→IsSyn FT w t v→Calls P 153 #[v] w (Ret fun u w'=>u= .int .i64 (T0 t)∧Chg [] w w')
theorem Cl6 (t:Syn) (hf:Au2 t=true) (hll:t.l.length≤2000000) (hc:∀ k,k<t.l.length→MeasC (t.l.getD k default)):MeasC t:=by
 intro v FT w hFT hT;have hC:=A8 [] w;obtain ⟨q,A1,c1,vs1,rfl,_,hB0,hr,hIs⟩:=hT.open;have hF:=hFT;have hbl:=An9 t.l;have hkq:=Ec3 hf;have hqw:=hB0.lt;refine D4 Tryz.func153 J J (Qd (Zc 1 J (Qd (Zc 1 J (Qa (Qd (Z 2 J (Fa Y1 J (Lb Dm1 J ‹_› (by rfl) ?_)))))))))
 refine Ln Tryz.underlying241 J (Zc 1 J (B2 (D8 (σ:=Nat × Option Addr × Nat) (fun (k,A,c)=>[(0,.pointer (some ⟨q,0,none⟩)),(3,.slice A k c),(9,.slice A1 t.l.length c1),(10,.int .i64 t.l.length),(11,.int .i64 k)]) (fun (k,A,c) wr=>Chg [] w wr∧IsSyn FT wr t (.pointer (some ⟨q,0,none⟩))∧Blk wr q (Bk3 t.kind t.set t.mn t.mx t.lz (.slice A1 t.l.length c1) t.a t.b) 254∧Rd FT wr 1 A1 t.l.length vs1∧IsSyns FT wr t.l vs1∧Own wr w.heap.size 3 1 A k c (I8 ((H2 t.l).take k))∧k≤t.l.length) (fun (k,A,c) wr=>t.l.length - k) (0,none,0) (sb J) ?_ ?_)))
 ·exact ⟨hC,hT,hB0,hr,hIs,Own.nil _ _ _ _,El0 _⟩
 rintro ⟨k,A,c⟩ w9 ⟨hC,hT,hB0,hr,hIs,hO,hk⟩;have hOb:=hO.blk
 try have hzw:=hC.size
 try have hlB0:=hB0.lt
 refine Qd (Zc 1 J (Qa (A4 J (fun h1=>?_) (fun h1=>?_))))
 ·try simp at h1
  have hkn:k<t.l.length:=by omega
  obtain ⟨v0,hv0,hi0⟩:=hIs.get k hkn;obtain ⟨g,off,rfl,_,_,_⟩:=hr.at_ (by omega);refine A7 (Qa (B2 (Qd (C9 J (B0 Am1 J J (by omega) (by omega)) (Lc Bb4 J (hr.one hv0).2 (Zc 1 J (Qb (Z 2 J (Ca fb153 J (hc k hkn v0 FT _ (fun y hy=>by have:=hFT y hy;omega) hi0) ?_)))))))));rintro _ w1 ⟨rfl,hx1⟩;have hz1:=hx1.size;refine B5 J (B7 T8 Tryz.underlying24 zr3 J J J (by rfl)) ?_;intro b2 w2 hb2 hs2 hx2 hB2;have hC:=hC.s0 (hx1.s0 hx2);have hT:=hT.u (hx1.s0 hx2);have hB0:=hB0.u (hx1.s0 hx2);have hr:=hr.u (hx1.s0 hx2);have hIs:=hIs.u (hx1.s0 hx2);have hO:=hO.u (hx1.s0 hx2);refine G1 J Dg6 J J hO (Blk.rd (F:=fun _=>True) ‹_› J trivial) (by rfl) (by omega) (by omega) ?_;intro A' c' w3 hO3 hx3 hA';have hC:=hC.step hx3 (by intro x h;have:=hOb x h;exact .inr (by omega));have hT:=hT.q hx3 (by intro x hx hf;have:=hOb x hx;have:=hF x hf;omega);have hB0:=hB0.q hx3 (by intro h;have:=hOb _ h;omega);have hr:=hr.q hx3 (by intro x hx hf;have:=hOb x hx;have:=hF x hf;omega);have hIs:=hIs.q hx3 (by intro x hx hf;have:=hOb x hx;have:=hF x hf;omega)
  replace hO:=hO3
  refine Zc 1 J (Qb (Ad J J (by omega) (Zc 1 J ⟨(k+1,A',c'),sb J,?_,?_⟩)));refine ⟨hC,hT,hB0,hr,hIs,?_,by omega⟩;rw [Eb6 (by omega),Be1 _ _ hkn];exact hO;show t.l.length - (k+1)<t.l.length - k;omega
 ·try simp at h1
  have hkk:k=t.l.length:=by omega
  subst hkk;rw [En0 (by omega)] at hO;have hrv:Rd (FR w.heap.size w9.heap.size []) w9 1 A t.l.length (I8 (H2 t.l)):=hO.rd (fun y h1 h2=>⟨h1,h2,by simp⟩);have hmr:=Ae9 t.l
  have hhd:t.l.length=1→(I8 (H2 t.l))[0]?=some (.int .i64 ((H2 t.l).headD 0))∧0≤(H2 t.l).headD 0∧(H2 t.l).headD 0≤9223372036854775807:=fun h=>by
   cases hm:H2 t.l with
   |nil=>rw [hm] at hbl;simp at hbl;omega
   |cons x r=>exact ⟨rfl,hmr x (by rw [hm];simp)⟩
  rw [Dn1];refine Xb (Qa (Qd (Z 2 J (Fa Af2 J (Lb o3 J ‹_› (by rfl) ?_)))))
  refine Qc (B2 (I3 (fun e9 wr=>Sub [(0,.pointer (some ⟨q,0,none⟩)),(3,.slice A t.l.length c),(24,.int .i64 t.kind),(25,.bool (decide (t.kind=2∨t.kind=3)))] e9∧wr=w9∧Chg [] w wr) ?_ ?_))
  ·refine Qd (Zc 2 J (A4 J (fun a1=>?_) (fun a1=>?_)))
   ·try simp at a1
    refine A7 ⟨⟨rfl,rfl,rfl,(H3 J (by rw [El4,cmpB_eql,El7];omega)),trivial⟩,?_⟩;exact ⟨rfl,hC⟩
   ·try simp at a1
    refine Qb (Zc 2 J ⟨⟨rfl,rfl,rfl,(H3 J (by rw [El4,cmpB_eql,El7];omega)),trivial⟩,?_⟩);exact ⟨rfl,hC⟩
  rintro e9 w8 ⟨hs9,rfl,hC⟩;refine I2 _ hs9 ?_;clear hs9 e9
  try have hzw:=hC.size
  refine A4 J (fun a2=>?_) (fun a2=>?_)
  ·try simp at a2
   have hl1:=Df0 hkq (by omega);obtain ⟨hv0,_,_⟩:=hhd hl1;obtain ⟨g,off,rfl,_,_,_⟩:=hrv.at_ (by omega);exact Qd (Z 1 J (C9 J (B0 T8 J J (by omega) (by omega)) (Lc o3 J (hrv.one hv0).2 (Zc 1 J (A6 (B4 J J ⟨J4 (by rw [Ek1 a2]),hC⟩))))))
  ·try simp at a2
   rw [Ek0 (by omega)]
   refine I3 (fun e9 wr=>Sub [(0,.pointer (some ⟨q,0,none⟩)),(3,.slice A t.l.length c),(24,.int .i64 t.kind),(31,.bool (decide (t.kind=4∨t.kind=5)))] e9∧wr=w8∧Chg [] w wr) ?_ ?_
   ·refine Qd (Zc 2 J (A4 J (fun a3=>?_) (fun a3=>?_)))
    ·try simp at a3
     refine A7 ⟨⟨rfl,rfl,rfl,(H3 J (by rw [El4,cmpB_eql,El7];omega)),trivial⟩,?_⟩;exact ⟨rfl,hC⟩
    ·try simp at a3
     refine Qb (Zc 2 J ⟨⟨rfl,rfl,rfl,(H3 J (by rw [El4,cmpB_eql,El7];omega)),trivial⟩,?_⟩);exact ⟨rfl,hC⟩
   rintro e9 w7 ⟨hs9,rfl,hC⟩;refine I2 _ hs9 ?_;clear hs9 e9
   refine A4 J (fun a4=>?_) (fun a4=>?_)
   ·try simp at a4
    refine Qd (Z 1 J (Ca fb186 J ((show Calls P 186 #[.slice A t.l.length c] w7 _ from hbl ▸ folded_c (H2 t.l) (FR w.heap.size w7.heap.size []) A c w7 (fun x hx=>(hmr x hx).2) (by omega) (hbl.symm ▸ hrv))) ?_));rintro _ w4 ⟨rfl,hx4⟩;have hC:=hC.s0 hx4;exact Zc 1 J (A6 (B4 J J ⟨J4 (by rw [Ek1 a4]),hC⟩))
   ·try simp at a4
    rw [Ek0 (by omega)]
    refine Qd (Zc 2 J (A4 J (fun a5=>?_) (fun a5=>?_)))
    ·try simp at a5
     have hl1:=Df0 hkq (by omega);obtain ⟨hv0,hb1,hb2⟩:=hhd hl1;obtain ⟨g,off,rfl,_,_,_⟩:=hrv.at_ (by omega);refine Qd (Z 2 J (C9 J (B0 T8 J J (by omega) (by omega)) (Lc o3 J (hrv.one hv0).2 (Ca fb187 J (Dl0 t ((H2 t.l).headD 0) _ FT w7 ⟨hb1,hb2⟩ (kids_cnt hkq a5) hT) ?_))));rintro _ w5 ⟨rfl,hx5⟩;have hC:=hC.s0 hx5;exact Zc 1 J (A6 (B4 J J ⟨J4 (by rw [Ek1 a5]),hC⟩))
    ·try simp at a5
     exact A7 (Qd (Zc 1 J (A6 (B4 J J ⟨J4 (by rw [Ek0 a5]),hC⟩))))
theorem Aj0 {t:Syn} (h:V1 t=true):Au2 t=true∧T9 t.l=true:=by
 cases t with|node k s mn mx lz l a b=>unfold V1 at h;simp only [Ek6] at h;exact h
theorem By4 {t:Syn} (h:SynOk t):L4 t.set∧t.l.length≤2000000∧SynsOk t.l:=by
 cases t with|node k s mn mx lz l a b=>unfold SynOk at h;exact h
mutual
theorem Cp5:∀ (t:Syn),SynOk t→V1 t=true→Dj5 t
 | .node k s mn mx lz l a b,ht,hf=>Dq5 _ (Aj0 hf).1 (By4 ht).2.1 (Bw7 l (By4 ht).2.2 (Aj0 hf).2)
theorem Bw7:∀ (l:List Syn),SynsOk l→T9 l=true→∀ k,k<l.length→Dj5 (l.getD k default)
 |[],_,_,k,hk=>absurd hk (by simp)
 |t::r,h,hf,0,_=>Cp5 t h.1 (by unfold T9 at hf;simp only [Ek6] at hf;exact hf.1)
 |t::r,h,hf,k+1,hk=>by rw [El9];exact Bw7 r h.2 (by unfold T9 at hf;simp only [Ek6] at hf;exact hf.2) k (by simpa using hk)
end
mutual
theorem Bk8:∀ (t:Syn),SynOk t→V1 t=true→MeasC t
 | .node k s mn mx lz l a b,ht,hf=>Cl6 _ (Aj0 hf).1 (By4 ht).2.1 (Be0 l (By4 ht).2.2 (Aj0 hf).2)
theorem Be0:∀ (l:List Syn),SynsOk l→T9 l=true→∀ k,k<l.length→MeasC (l.getD k default)
 |[],_,_,k,hk=>absurd hk (by simp)
 |t::r,h,hf,0,_=>Bk8 t h.1 (by unfold T9 at hf;simp only [Ek6] at hf;exact hf.1)
 |t::r,h,hf,k+1,hk=>by rw [El9];exact Be0 r h.2 (by unfold T9 at hf;simp only [Ek6] at hf;exact hf.2) k (by simpa using hk)
end
theorem Dc2 (w:World):Calls P 154 #[] w (Ret fun u w'=>Chg [] w w'∧IsCor (FR w.heap.size w'.heap.size []) w' Ct6 u):=by
 have hC:=A8 [] w;refine D4 Tryz.func154 J J (Qd (Zc 1 J (Qd (Ca fb156 J (all_c _) ?_))));rintro _ w1 ⟨rfl,hx1⟩;have hz1:=hx1.size;refine C9 J (B1 Ch0 Ck1 J (by rfl)) ?_;refine B5 J (E1 J J) ?_;intro b2 w2 hb2 hs2 hx2 hB2;refine Ca fb155 J (star_c _ true _) ?_;rintro v7 w3 ⟨hx3,p,hv,hp,hBn⟩;have hz3:=hx3.size;have hC:=hC.s0 ((hx1.s0 hx2).s0 hx3);have hB2:=hB2.u hx3;exact Zc 1 J (A6 (B4 J J ⟨hC,p,_,hv,⟨by omega,hBn.lt,by simp⟩,hBn,b2,rfl,⟨by omega,by omega,by simp⟩,by assumption⟩))
theorem wrap_c (r:Cor) (v:Value) (mode:Int) (F:Nat→Prop) (w:World) (hI:IsCor F w r v):Calls P 130 #[v,.int .i64 mode] w (Ret fun u w'=>Chg [] w w'∧IsCor (fun x=>F x∨w.heap.size≤x) w' (Ch2 r mode) u):=by
 have hC:=A8 [] w;obtain ⟨p,rfl⟩:=hI.ptr;refine D4 Tryz.func130 J J ?_;unfold Ch2
 refine Qd (Zc 1 J (Qd (Zc 1 J (Qa (Qd (Zc 1 J (B2 (Qd (Zc 2 J (A4 J (fun a1=>?_) (fun a1=>?_)))))))))))
 ·try simp at a1
  refine Qd (Z 2 J (P0 J (O0 J fb154 J) (Dc2 _) ?_));rintro v6 w1 ⟨hx1,hR'⟩;have hz1:=hx1.size;have hR:=hR';clear hR';obtain ⟨pr,rfl⟩:=hR.ptr;refine Ca Ce2 J (By1 2 _ _ _) ?_;rintro v7 w2 ⟨hx2,p2,rfl,hp,hBn⟩;have hC:=hC.s0 (hx1.s0 hx2);have hI:=hI.u (hx1.s0 hx2);have hR:=hR.u hx2;refine Zc 1 J (A6 (B4 J J ?_));rw [Ek1 a1];exact ⟨hC,_,_,_,rfl,Or.inr (by omega),hBn,hI.mono (fun y hy _=>Or.inl hy),hR.mono (fun y hy _=>Or.inr (by have:=hy.1;omega))⟩
 ·try simp at a1
  rw [Ek0 a1]
  refine Qd (Zc 2 J (A4 J (fun a2=>?_) (fun a2=>?_)))
  ·try simp at a2
   refine Qd (Z 1 J (P0 J (O0 J fb154 J) (Dc2 _) ?_));rintro v6 w3 ⟨hx3,hR'⟩;have hz3:=hx3.size;have hR:=hR';clear hR';obtain ⟨pr,rfl⟩:=hR.ptr;refine Z 1 J (Ca Ce2 J (By1 2 _ _ _) ?_);rintro v7 w4 ⟨hx4,p2,rfl,hp,hBn⟩;have hC:=hC.s0 (hx3.s0 hx4);have hI:=hI.u (hx3.s0 hx4);have hR:=hR.u hx4;refine Zc 1 J (A6 (B4 J J ?_));rw [Ek1 a2];exact ⟨hC,_,_,_,rfl,Or.inr (by omega),hBn,hR.mono (fun y hy _=>Or.inr (by have:=hy.1;omega)),hI.mono (fun y hy _=>Or.inl hy)⟩
  ·try simp at a2
   rw [Ek0 a2]
   refine Qd (Zc 2 J (A4 J (fun a3=>?_) (fun a3=>?_)))
   ·try simp at a3
    refine Qd (Z 1 J (P0 J (O0 J fb154 J) (Dc2 _) ?_));rintro v6 w5 ⟨hx5,hR'⟩;have hz5:=hx5.size;have hR:=hR';clear hR';obtain ⟨pr,rfl⟩:=hR.ptr;refine Z 2 J (P0 J (O0 J fb154 J) (Dc2 _) ?_);rintro v6 w6 ⟨hx6,hQ'⟩;have hz6:=hx6.size;have hQ:=hQ';clear hQ';obtain ⟨pq,rfl⟩:=hQ.ptr;refine Ca Ce2 J (By1 2 _ _ _) ?_;rintro v7 w7 ⟨hx7,p2,rfl,hp,hBn'⟩;have hz7:=hx7.size;have hBn:=hBn';clear hBn';refine Ca Ce2 J (By1 2 _ _ _) ?_;rintro v8 w8 ⟨hx8,p3,rfl,hp3,hBm⟩;have hC:=hC.s0 (((hx5.s0 hx6).s0 hx7).s0 hx8);have hI:=hI.u (((hx5.s0 hx6).s0 hx7).s0 hx8);have hR:=hR.u ((hx6.s0 hx7).s0 hx8);have hQ:=hQ.u (hx7.s0 hx8);have hBn:=hBn.u hx8;refine Zc 1 J (A6 (B4 J J ?_));rw [Ek1 a3];exact ⟨hC,_,_,_,rfl,Or.inr (by omega),hBm,hR.mono (fun y hy _=>Or.inr (by have:=hy.1;omega)),_,_,_,rfl,Or.inr (by omega),hBn,hI.mono (fun y hy _=>Or.inl hy),hQ.mono (fun y hy _=>Or.inr (by have:=hy.1;omega))⟩
   ·try simp at a3
    rw [Ek0 a3];exact A7 (Qd (Zc 2 J (A6 (B4 J J ⟨hC,hI.mono (fun y hy _=>Or.inl hy)⟩))))
def Bi9 (t:Syn) (mode:Int):Bool:=Ci7 t && decide (0≤mode) && decide (mode<4)
theorem Dc0 (t:Syn) (mode:Int) (ht:SynOk t) (hd:Q8 t≤100000000) (v:Value) (F:Nat→Prop) (w:World) (hF:∀ b,F b→b<w.heap.size) (hI:IsSyn F w t v):Calls P 128 #[v,.int .i64 mode] w (Ret fun u w'=>u= .bool (Bi9 t mode)∧Chg [] w w'):=by
 have hC:=A8 [] w;refine D4 Tryz.func128 J J (Qd (Zc 1 J (Qd (Z 1 J (Ca fb152 J (right_c t ht hd v F _ hF ‹_›) ?_)))));rintro _ w1 ⟨rfl,hx1⟩;have hC:=hC.s0 hx1;unfold Bi9
 refine Z 1 J (C0 (d:=7) J (fun h1=>?_) (fun h1=>?_))
 ·try simp at h1
  refine Qu J (Z 1 J (Qu J (Z 3 J (C0 (d:=11) J (fun h2=>?_) (fun h2=>?_)))))
  ·try simp at h2
   exact Qu J (Z 1 J (Qu J (Zc 3 J (A6 (B4 J J ⟨H5 (by rw [h1];simp [h2,Aa4]),hC⟩)))))
  ·try simp at h2
   exact Qk J (Qk J (Zc 2 J (A6 (B4 J J ⟨H5 (by rw [h1];simp [h2];omega),hC⟩))))
 ·try simp at h1
  exact Qk J (Qk J (Z 2 J (Qk J (Qk J (Zc 2 J (A6 (B4 J J ⟨H5 (by rw [h1];simp),hC⟩)))))))
def Dm7 (mode:Int):Int:=if mode=0 then 0 else if mode=3 then 6 else 3
theorem modeN_at (mode:Int) (h0:0≤mode) (h1:mode<4):([.int .i64 0,.int .i64 3,.int .i64 3,.int .i64 6]:List Value)[mode.toNat]?=some (.int .i64 (Dm7 mode)):=by
 have h:mode=0∨mode=1∨mode=2∨mode=3:=by omega
 rcases h with rfl|rfl|rfl|rfl<;>rfl
theorem Cu8 (mode:Int):0≤Dm7 mode∧Dm7 mode≤6:=by unfold Dm7;split;omega;split<;>omega
def Bh4 (t:Syn) (mode:Int):Int:=if Bi9 t mode then Av6 [T0 t,Dm7 mode] else 0
theorem Bi8 {t:Syn} {mode:Int} (h:Bi9 t mode=true):V1 t=true∧0≤mode∧mode<4:=by
 unfold Bi9 Ci7 at h;simp only [Ek6,Em0] at h;exact ⟨h.1.1.1,h.1.2,h.2⟩
theorem Dn0 (t:Syn) (mode:Int) (ht:SynOk t) (hd:Q8 t≤100000000) (v:Value) (F:Nat→Prop) (w:World) (hF:∀ b,F b→b<w.heap.size) (hI:IsSyn F w t v):Calls P 129 #[v,.int .i64 mode] w (Ret fun u w'=>u= .int .i64 (Bh4 t mode)∧Chg [] w w'):=by
 have hC:=A8 [] w;have hmr:=Y7 t;have hmn:=Cu8 mode;refine D4 Tryz.func129 J J (Qd (Zc 1 J (Qa (Qd (Z 2 J (Ca fb128 J (Dc0 t mode ht hd v F _ hF ‹_›) ?_))))));rintro _ w1 ⟨rfl,hx1⟩;have hz1:=hx1.size;have hC:=hC.s0 hx1;have hI:=hI.u hx1;unfold Bh4
 refine Zc 1 J (A4 J (fun h1=>?_) (fun h1=>?_))
 ·try simp at h1
  exact Qd (Zc 1 J (A6 (B4 J J ⟨J4 (by rw [h1];rfl),hC⟩)))
 ·try simp at h1
  obtain ⟨hf,hm0,hm1⟩:=Bi8 h1;refine A7 (Qa (C8 (S:=[]) 5 [(0,0),(0,2),(0,3),(0,4),(1,1),(2,5),(2,6),(2,7)] mo (by kernel_rfl) ?_));intro w2 hx2 hh2;have hI:=hI.u hx2;have hCS2:=A8 ([]) w2;refine Z 1 J (D6 J (D7 zr246 ar246 J (by rfl)) ?_);refine Z 1 J (D6 J (Av5 ar246 (by kernel_rfl) J J (by omega) (by omega) (modeN_at mode hm0 hm1)) ?_);refine C5 J (C3 fb153 J) (Bk8 t ht hf v F _ (fun y hy=>by have:=hF y hy;omega) ‹_›) ?_;rintro _ w3 ⟨rfl,hx3⟩;have hCS2:=hCS2.s0 hx3;refine ⟨hCS2,?_⟩;refine B5 J (B7 T8 Tryz.underlying24 zr3 J J J (by rfl)) ?_;intro b4 w4 hb4 hs4 hx4 hB4;have hz4:=hx4.size;have hC:=hC.s0 ((hx2.s0 hx3).s0 hx4);have hI:=hI.u (hx3.s0 hx4);refine Ca fb46 J (Az9 [T0 t,Dm7 mode] _ _ _ _ _ ‹_› J (by intro x hx;simp at hx;omega) (by simp)) ?_;rintro _ _ ⟨rfl,rfl⟩;exact Zc 1 J (A6 (B4 J J ⟨J4 (by rw [h1];rfl),hC⟩))
def Bx1 (t:Syn) (mode:Int):Int:=if Bi9 t mode=false then 1 else if 4096<Bh4 t mode then 3 else 0
theorem buildm_c (t:Syn) (mode:Int) (ht:SynOk t) (hd:Q8 t≤100000000) (v:Value) (F:Nat→Prop) (w:World) (hF:∀ b,F b→b<w.heap.size) (hI:IsSyn F w t v):
  Calls P 95 #[v,.int .i64 mode] w (Ret fun u w'=>Chg [] w w'∧∃ ad,u= .tuple #[.pointer ad,.int .i64 (Bx1 t mode)]∧(Bx1 t mode=0→IsCor (FR w.heap.size w'.heap.size []) w' (Ch2 (Ah1 t) mode) (.pointer ad))∧(Bx1 t mode≠0→ad=none)):=by
 have hC:=A8 [] w;refine D4 Tryz.func95 J J (Qd (Zc 2 J (Qa (B2 (Qd (Z 2 J (Ca fb128 J (Dc0 t mode ht hd v F _ hF ‹_›) ?_)))))));rintro _ w1 ⟨rfl,hx1⟩;have hz1:=hx1.size;have hC:=hC.s0 hx1;have hI:=hI.u hx1;unfold Bx1
 refine Zc 2 J (A4 J (fun h1=>?_) (fun h1=>?_))
 ·try simp at h1
  refine Qd (Zc 2 J (A6 (J1 J J J ?_)));rw [Ek1 h1];exact ⟨hC,none,rfl,fun h=>by omega,fun _=>rfl⟩
 ·try simp at h1
  rw [Ek0 (by rw [h1];simp)];obtain ⟨hf,hm0,hm1⟩:=Bi8 h1;refine Qd (Z 2 J (Ca fb129 J (Dn0 t mode ht hd v F _ (fun y hy=>by have:=hF y hy;omega) ‹_›) ?_));rintro _ w2 ⟨rfl,hx2⟩;have hz2:=hx2.size;have hC:=hC.s0 hx2;have hI:=hI.u hx2
  refine Zc 2 J (A4 J (fun h2=>?_) (fun h2=>?_))
  ·try simp at h2
   refine Qd (Zc 2 J (A6 (J1 J J J ?_)));rw [Ek1 h2];exact ⟨hC,none,rfl,fun h=>by omega,fun _=>rfl⟩
  ·try simp at h2
   rw [Ek0 (by omega)];refine A7 (Qd (Z 1 J (Ca fb131 J (Cp5 t ht hf v F _ (fun y hy=>by have:=hF y hy;omega) ‹_›) ?_)));rintro v6 w3 ⟨hx3,hV'⟩;have hz3:=hx3.size;have hV:=hV';clear hV';refine Z 1 J (Ca fb130 J (wrap_c (Ah1 t) _ mode _ _ ‹_›) ?_);rintro v7 w4 ⟨hx4,hW⟩;have hC:=hC.s0 (hx3.s0 hx4);obtain ⟨pw,rfl⟩:=hW.ptr;exact Zc 2 J (A6 (J1 J J J ⟨hC,_,rfl,fun _=>hW.mono (fun y hy hl=>⟨hy.elim (fun h=>by have:=h.1;omega) (fun h=>by omega),hl,by simp⟩),fun h=>absurd J h⟩))
def L6:Cor→List Nat
 | .empty=>[]
 | .set s=>[s]
 | .cat a b=>L6 a++L6 b
 | .alt a b=>L6 a++L6 b
 | .star _ a=>L6 a
theorem U6 (a b:List Nat):F5 (a++b)=F5 a++F5 b:=by simp [F5]
def Dq9 (l:List Nat) (w:World) (u:Value) (w':World):Prop:=Chg [] w w'∧∃ A c,u= .slice A l.length c∧Own w' w.heap.size 70 4 A l.length c (F5 l)
theorem Bb0 (w:World):Calls P 96 #[.pointer none] w (Ret (Dq9 [] w)):=by
 have hC:=A8 [] w
 refine D4 Tryz.func96 J J (Qd (Zc 1 J (Qa (Qd (Z 1 J (C9 J (I0 Tryz.underlying67 J J) (Qc (A4 J (fun h0=>?_) (fun h0=>?_)))))))))
 ·try simp at h0
  exact Qd (Zc 1 J (A6 (B4 J J ⟨hC,none,0,rfl,Own.nil _ _ _ _⟩)))
 ·try simp at h0
  all_goals cases h0
theorem Dk6 (s p:Nat) (lz:Bool) (va vb:Value) (w:World) (hB0:Blk w p (Eg4 1 s lz va vb) 214):Calls P 96 #[.pointer (some ⟨p,0,none⟩)] w (Ret (Dq9 [s] w)):=by
 have hC:=A8 [] w
 refine D4 Tryz.func96 J J (Qd (Zc 1 J (Qa (Qd (Z 1 J (C9 J (I0 Tryz.underlying67 J J) (Qc (A4 J (fun h0=>?_) (fun h0=>?_)))))))))
 ·try simp at h0
  all_goals cases h0
 ·try simp at h0
  refine A7 (Qa (Qd (Z 2 J (Fa Au5 J (Lb o3 J ‹_› (by rfl) ?_)))));refine Zc 1 J (E3 (rfl) (Qd (Z 2 J (Fa Ed3 J (La J0 J ‹_› (by rfl) J ?_)))));refine B5 J (B7 Ar5 Tryz.underlying23 N0 J J J (by rfl)) ?_;intro b1 w1 hb1 hs1 hx1 hB1;have hC:=hC.s0 hx1;exact Zc 1 J (A6 (B4 J J ⟨hC,_,_,rfl,Blk.own (cs:=F5 [s]) ‹_› J (by omega) (by simp)⟩))
theorem Eh7 (l:List Nat):(F5 l).all Value.oneCell'=true:=by
 induction l with
 |nil=>rfl
 |cons s l ih=>simp only [F5,Eo0,List.all_append,Ek6] at*;exact ⟨rfl,ih⟩
theorem Ah8 (k:Int) (hk:k≠1) (la lb:List Nat) (hla:la.length≤1000000) (hlb:lb.length≤1000000) (p:Nat) (lz:Bool) (va vb:Value) (w:World) (hB0:Blk w p (Eg4 k 0 lz va vb) 214)
  (ha:∀ w',Chg [] w w'→Calls P 96 #[va] w' (Ret (Dq9 la w'))) (hb:∀ w',Chg [] w w'→Calls P 96 #[vb] w' (Ret (Dq9 lb w'))):Calls P 96 #[.pointer (some ⟨p,0,none⟩)] w (Ret (Dq9 (la++lb) w)):=by
 have hC:=A8 [] w
 refine D4 Tryz.func96 J J (Qd (Zc 1 J (Qa (Qd (Z 1 J (C9 J (I0 Tryz.underlying67 J J) (Qc (A4 J (fun h0=>?_) (fun h0=>?_)))))))))
 ·try simp at h0
  all_goals cases h0
 ·try simp at h0
  refine A7 (Qa (Qd (Z 2 J (Fa Au5 J (Lb o3 J ‹_› (by rfl) ?_)))))
  refine Zc 1 J (A4 J (fun h1=>?_) (fun h1=>?_))
  ·try simp at h1
   exact absurd h1 hk
  ·try simp at h1
   refine A7 (Qa (C8 (S:=[]) 9 [(0,0),(0,1),(0,2),(0,3),(0,5),(0,6),(0,7),(0,8),(1,4),(2,9),(2,10),(2,11)] mo (by kernel_rfl) ?_));intro w1 hx1 hh1;have hz1:=hx1.size;have hC:=hC.s0 hx1;have hB0:=hB0.u hx1;have hCS1:=A8 ([]) w1;refine Z 2 J (Fa Cd2 J (D6 J (B3 o67 J ‹_› (by simp;done) (by rfl)) ?_));refine Z 2 J (Fa Cw5 J (D6 J (B3 o67 J ‹_› (by simp;done) (by rfl)) ?_));refine C5 J (C3 fb96 J) (ha _ hC) ?_;rintro _ w2 ⟨hx2,A1,c1,rfl,hO'⟩;have hz2:=hx2.size;have hC:=hC.s0 hx2;have hCS1:=hCS1.s0 hx2;have hO:=hO';clear hO';refine ⟨hCS1,?_⟩;refine Ca fb96 J (hb _ hC) ?_;rintro _ w3 ⟨hx3,A2,c2,rfl,hQ'⟩;have hz3:=hx3.size;have hC:=hC.s0 hx3;have hO:=hO.u hx3;have hQ:=hQ';clear hQ';have hOb:=hO.blk;refine G1 J el23 J J hO (hQ.rd (F:=fun _=>True) (fun _ _ _=>trivial)) (by exact Eh7 _) (by omega) (by omega) ?_;intro A' c' w4 hO4 hx4 hA';have hC:=hC.step hx4 (by intro x h;have:=hOb x h;exact .inr (by omega))
   replace hO:=hO4
   refine Zc 1 J (A6 (B4 J J ⟨hC,A',c',?_,?_⟩));rw [Ek5];rw [U6,Ek5];exact hO.lower (by omega)
theorem Bs1:∀ (t:Cor) (v:Value) (F:Nat→Prop) (w:World),IsCor F w t v→(L6 t).length≤1000000→Calls P 96 #[v] w (Ret (Dq9 (L6 t) w))
 | .empty,v,F,w,h,hl=>by
  obtain ⟨p,rfl,_,hB⟩:=h;exact Ah8 0 (by decide) [] [] (by simp) (by simp) p _ _ _ w hB (fun w' _=>Bb0 w') (fun w' _=>Bb0 w')
 | .set s,v,F,w,h,hl=>by
  obtain ⟨p,rfl,_,hB⟩:=h;exact Dk6 s p _ _ _ w hB
 | .cat a b,v,F,w,h,hl=>by
  obtain ⟨p,va,vb,rfl,_,hB,h1,h2⟩:=h;simp only [L6,Ek5] at hl;exact Ah8 2 (by decide) _ _ (by omega) (by omega) p _ _ _ w hB (fun w' hw=>Bs1 a va F w' (h1.u hw) (by omega)) (fun w' hw=>Bs1 b vb F w' (h2.u hw) (by omega))
 | .alt a b,v,F,w,h,hl=>by
  obtain ⟨p,va,vb,rfl,_,hB,h1,h2⟩:=h;simp only [L6,Ek5] at hl;exact Ah8 3 (by decide) _ _ (by omega) (by omega) p _ _ _ w hB (fun w' hw=>Bs1 a va F w' (h1.u hw) (by omega)) (fun w' hw=>Bs1 b vb F w' (h2.u hw) (by omega))
 | .star lz a,v,F,w,h,hl=>by
  obtain ⟨p,va,rfl,_,hB,h1⟩:=h;simp only [L6] at hl;have:=Ah8 4 (by decide) (L6 a) [] (by omega) (by simp) p _ _ _ w hB (fun w' hw=>Bs1 a va F w' (h1.u hw) (by omega)) (fun w' _=>Bb0 w')
  rwa [Ep1] at this
def S4 (L:List Nat) (mode:Int):Cor × Int × Int:=
 if mode<0∨4≤mode then (.empty,0,1)
 else if (M5 L).2.2≠0 then (.empty,(M5 L).2.1,(M5 L).2.2)
 else (Ch2 (Ah1 (M5 L).1) mode,0,Bx1 (M5 L).1 mode)
theorem Bn6 (s:ByteArray) (mode:Int) (w:World) (hL:Laid w) (hok:(M5 (B6 s)).2.2=0→SynOk (M5 (B6 s)).1∧Q8 (M5 (B6 s)).1≤100000000):
  Calls P 61 #[.string s,.int .i64 mode] w (Ret fun u w'=>Chg [] w w'∧∃ ad,u= .tuple #[.pointer ad,.int .i64 (S4 (B6 s) mode).2.1,.int .i64 (S4 (B6 s) mode).2.2]∧((S4 (B6 s) mode).2.2=0→IsCor (FR w.heap.size w'.heap.size []) w' (S4 (B6 s) mode).1 (.pointer ad))∧((S4 (B6 s) mode).2.2≠0→ad=none)):=by
 have hC:=A8 [] w;refine D4 Tryz.func61 J J ?_;unfold S4
 refine Qd (Zc 3 J (Qa (Qd (Z 3 J (C0 (d:=13) J (fun h1=>?_) (fun h1=>?_))))))
 ·try simp at h1
  refine Qk J (Qk J (Zc 1 J (E3 J (Qd (Zc 3 J (A6 (O9 J J J J ?_)))))));rw [Ek1 (Or.inl h1)];exact ⟨hC,none,rfl,fun h=>absurd h (by decide),fun _=>rfl⟩
 ·try simp at h1
  refine Qu J (Z 1 J (Qu J (Zc 2 J (A4 J (fun h2=>?_) (fun h2=>?_)))))
  ·try simp at h2
   refine Qd (Zc 3 J (A6 (O9 J J J J ?_)));rw [Ek1 (Or.inr h2)];exact ⟨hC,none,rfl,fun h=>absurd h (by decide),fun _=>rfl⟩
  ·try simp at h2
   rw [Ek0 (by omega)];refine A7 (Qd (Z 1 J (Ca fb94 J (parse_c s _ hL) ?_)));rintro _ w1 ⟨hx1,ad,rfl,hT'⟩;have hz1:=hx1.size;have hC:=hC.s0 hx1
   refine Zc 7 J (Qa (Qd (Zc 2 J (A4 J (fun h3=>?_) (fun h3=>?_)))))
   ·try simp at h3
    refine Qd (Zc 5 J (A6 (O9 J J J J ?_)));rw [Ek1 h3];exact ⟨hC,none,rfl,fun h=>absurd h h3,fun _=>rfl⟩
   ·try simp at h3
    rw [Ek0 (by simpa using h3)];obtain ⟨hok1,hok2⟩:=hok h3;refine A7 (Qd (Z 2 J (Ca fb95 J (buildm_c (M5 (B6 s)).1 mode hok1 hok2 _ _ _ (fun y hy=>hy.2.1) (hT' h3)) ?_)));rintro _ w2 ⟨hx2,ad2,rfl,hV,hN⟩;have hC:=hC.s0 hx2;exact Zc 5 J (Qd (Zc 5 J (A6 (O9 J J J J ⟨hC,ad2,rfl,fun h=>(hV h).mono (fun y hy hl=>⟨by have:=hy.1;omega,hl,by simp⟩),hN⟩))))
end Go.Clt
section
namespace Go.Clt
open Go Go.RowKit Go.Proofs Go.ChangeMaps
section
variable {α:Type} [DecidableEq α]
def asc:List (α × Int)→Nat→α→Option (Nat × Int)
 |[],_,_=>none
 |p::r,i,a=>if a=p.1 then some (i,p.2) else asc r (i+1) a
def S9 (L:List (α × Int)) (a:α):Option Int:=(asc L 0 a).map (·.2)
def Ba4:List (α × Int)→α→Int→List (α × Int)
 |[],a,v=>[(a,v)]
 |p::r,a,v=>if a=p.1 then (p.1,v)::r else p::Ba4 r a v
def kvs (enc:α→Value) (L:List (α × Int)):List (Value × Value):=L.map fun p=>(enc p.1,.int .i64 p.2)
structure KL (P:Program) (k:TypeId) (enc:α→Value):Prop where
 check:∀ e a w,(Instr.checkKey e 10000 k (enc a)).run P w= .ok () w
 find:∀ a (L:List (α × Int)) (es:List MapEntry) w,es.map (fun x=>(x.key,x.val))=kvs enc L→(Instr.findKey k (enc a) es).run P w= .ok ((asc L 0 a).map fun q=>(q.1,.int .i64 q.2)) w
 same:∀ a,Instr.sameBits 10000 (enc a) (enc a)=true
def Mp (enc:α→Value) (w:World) (b:Nat) (L:List (α × Int)):Prop:=
 ∃ es clock,w.heap[b]?=some (.map es clock)∧(es.toList.map (·.born)).Nodup∧(∀ x∈es.toList,x.born<clock)∧es.toList.map (fun x=>(x.key,x.val))=kvs enc L
variable {enc:α→Value}
theorem Mp.lt {α:Type} {enc:α→Value} {w:World} {b:Nat} {L:List (α × Int)} (h:Mp enc w b L):b<w.heap.size:=by
 obtain ⟨es,clock,h,_⟩:=h;exact (Eo5.1 h).1
theorem Mp.q {α:Type} {enc:α→Value} {S:List Nat} {w w':World} {b:Nat} {L:List (α × Int)} (h:Mp enc w b L) (k:Chg S w w') (hb:b∉S):Mp enc w' b L:=by
 have hl:=h.lt;obtain ⟨es,clock,h,r⟩:=h;exact ⟨es,clock,(k.same b hl hb).trans h,r⟩
theorem Mp.u {α:Type} {enc:α→Value} {w w':World} {b:Nat} {L:List (α × Int)} (h:Mp enc w b L) (k:Chg [] w w'):Mp enc w' b L:=h.q k (by simp)
theorem Mp.neBlk {α:Type} {enc:α→Value} {w:World} {b b':Nat} {L:List (α × Int)} {cs:List Value} {τ:TypeId} (h:Mp enc w b L) (h':Blk w b' cs τ):b≠b':=by
 rintro rfl;obtain ⟨es,clock,h,_⟩:=h;rw [show w.heap[b]?=_ from h'] at h
 cases h
theorem Eh6 (L:List (α × Int)):∀ (i j:Nat) (a:α),asc L (i+j) a=(asc L i a).map fun q=>(q.1+j,q.2):=by
 induction L with
 |nil=>intros;rfl
 |cons p r ih=>
  intro i j a;simp only [asc]
  split
  ·rfl
  ·rw [show i+j+1=(i+1)+j from by omega,ih]
theorem Ax8 {L:List (α × Int)} {a:α} {v:Int} {x:α × Int} (h:x∈Ba4 L a v):x=(a,v)∨x∈L:=by
 induction L with
 |nil=>simp [Ba4] at h;exact .inl h
 |cons p r ih=>
  simp only [Ba4] at h
  split at h
  ·rename_i he
   rcases Eo4.1 h with h|h
   ·left;rw [h,he]
   ·right;exact Em8 _ h
  ·rcases Eo4.1 h with h|h
   ·right;rw [h];exact Em1 ..
   ·rcases ih h with h|h
    ·exact .inl h
    ·exact .inr (Em8 _ h)
theorem Z4 (p:α × Int) (r:List (α × Int)) (a:α):S9 (p::r) a=if a=p.1 then some p.2 else S9 r a:=by
 unfold S9;simp only [asc]
 split
 ·rfl
 ·rw [show (0+1)=0+1 from rfl,Eh6 r 0 1 a]
  cases asc r 0 a<;>rfl
theorem Ai6 (a:α):S9 ([]:List (α × Int)) a=none:=rfl
theorem Ag8 (p:α × Int) (r:List (α × Int)) (a:α) (v:Int):Ba4 (p::r) a v=if a=p.1 then (p.1,v)::r else p::Ba4 r a v:=rfl
theorem Z3 (L:List (α × Int)) (a:α) (v:Int) (c:α):S9 (Ba4 L a v) c=if c=a then some v else S9 L c:=by
 induction L with
 |nil=>simp only [Ba4,Z4,Ai6]
 |cons p r ih=>
  rw [Ag8]
  by_cases h:a=p.1
  ·rw [Ek1 h];simp only [Z4];subst h
   by_cases hc:c=p.1
   ·rw [Ek1 hc,Ek1 hc]
   ·rw [Ek0 hc,Ek0 hc,Ek0 hc]
  ·rw [Ek0 h];simp only [Z4,ih]
   by_cases hc:c=p.1
   ·rw [Ek1 hc,Ek1 hc,Ek0 (by rintro rfl;exact h hc)]
   ·rw [Ek0 hc,Ek0 hc]
theorem Bg6 (L:List (α × Int)) (a:α) (v:Int):(Ba4 L a v).length=if S9 L a=none then L.length+1 else L.length:=by
 induction L with
 |nil=>rfl
 |cons p r ih=>
  rw [Ag8,Z4]
  split
  ·simp
  ·simp only [En2,ih]
   split<;>rfl
theorem P4 {L:List (α × Int)} {a:α} {v:Int} (h:S9 L a=some v):(a,v)∈L:=by
 induction L with
 |nil=>cases h
 |cons p r ih=>
  rw [Z4] at h
  split at h
  ·rename_i he
   cases h
   subst he;exact Em1 ..
  ·exact Em8 _ (ih h)
theorem Dz7 {L:List (α × Int)} {a:α} (h:S9 L a=none):∀ x∈L,x.1≠a:=by
 induction L with
 |nil=>intro x hx;cases hx
 |cons p r ih=>
  rw [Z4] at h
  split at h
  ·cases h
  ·rename_i he
   intro x hx
   rcases Eo4.1 hx with rfl|hx
   ·exact fun e=>he e.symm
   ·exact ih h x hx
theorem At9 {L:List (α × Int)} (hn:(L.map (·.1)).Nodup) {a:α} {v:Int} (h:(a,v)∈L):S9 L a=some v:=by
 induction L with
 |nil=>cases h
 |cons p r ih=>
  rw [Z4];simp only [En3,Eu8] at hn
  rcases Eo4.1 h with h|h
  ·rw [Ek1 (by rw [← h]),← h]
  ·rw [Ek0,ih hn.2 h];intro e;exact hn.1 (by rw [← e];exact Eo9.2 ⟨_,h,rfl⟩)
theorem Dm5 {L:List (α × Int)} (hn:(L.map (·.1)).Nodup) (a:α) (v:Int):((Ba4 L a v).map (·.1)).Nodup:=by
 induction L with
 |nil=>simp [Ba4]
 |cons p r ih=>
  rw [Ag8];simp only [En3,Eu8] at hn
  split
  ·simp only [En3,Eu8];exact hn
  ·rename_i he
   simp only [En3,Eu8];refine ⟨fun hm=>?_,ih hn.2⟩;obtain ⟨x,hx,hxe⟩:=Eo9.1 hm
   rcases Ax8 hx with rfl|hx
   ·exact he hxe
   ·exact hn.1 (Eo9.2 ⟨x,hx,hxe⟩)
theorem Ax9 {P:Program} {t k e:TypeId} (h:mpB P t k e=true):P.underlying t=some (.map k e):=by
 unfold mpB at h
 cases hu:P.underlying t with
 |none=>rw [hu] at h;cases h
 |some d=>rw [hu] at h;cases d<;>first|(cases h;done)|(simp only [Ek6,beq_iff_eq] at h;obtain ⟨rfl,rfl⟩:=h;rfl)
section
variable {P:Program} {n:Nat} {ops:Array Oper} {S:World→Prop} {N:Env→World→Prop} {B:Nat→Env→World→Prop} {R:Env→World→Prop} {e:Env} {w:World}
variable {rest:List (Nat × Oper)} {d:Nat} {op:Op} {t:TypeId} {p:String} {af:Array Edge} {dst:Option Tmp} {g:Option (Nat × Bool)} {φ:World→Prop}
theorem Db7 {τ k el:TypeId} {b:Nat} {L:List (α × Int)} (K:KL P k enc) (ht:mpB P τ k el=true) (hz:K5 P el=some (.int .i64 0)) (hm:Mp enc w b L) (a:α) (ok:Bool):
  (Instr.lookup τ (.map (some b)) (enc a) ok).run P w= .ok (if ok then .tuple #[.int .i64 ((S9 L a).getD 0),.bool (S9 L a).isSome] else .int .i64 ((S9 L a).getD 0)) w:=by
 obtain ⟨es,clock,hb,hn,hc,hL⟩:=hm;unfold K5 at hz;obtain ⟨i,hi,hz⟩:=Eq9.1 hz;simp only [Instr.lookup,Sem.run_bind,run_underlying (Ax9 ht),Result.andThen_ok,MapKept.run_getObj_map hb,Sem.run_pure,K.check,K.find a L es.toList w hL];unfold S9
 cases asc L 0 a with
 |none=>simp [zeroValue,typeInfo,hi,hz]
 |some q=>simp
theorem Ej6 {τ k el:TypeId} {x y:Operand} {b:Nat} {L:List (α × Int)} {a:α} {w0:World} (K:KL P k enc) (ht:mpB P τ k el=true) (hz:K5 P el=some (.int .i64 0)) (hx:ev e x=some (.map (some b))) (hy:ev e y=some (enc a)) (hm:Mp enc w0 b L) (hk:Keeps φ b w0):
  Does P n e ⟨dst,.lookup τ x y false,t,p,af,g⟩ φ (.int .i64 ((S9 L a).getD 0)):=fun ac w ha hw=>by
 have hm':Mp enc w b L:=by obtain ⟨es,clock,hb,r⟩:=hm;exact ⟨es,clock,(hk w hw).trans hb,r⟩
 simp [execOp,ha.ev hx,ha.ev hy,Db7 K ht hz hm' a false]
theorem Bp8 {τ k el:TypeId} {x y:Operand} {b:Nat} {L:List (α × Int)} {a:α} {w0:World} (K:KL P k enc) (ht:mpB P τ k el=true) (hz:K5 P el=some (.int .i64 0)) (hx:ev e x=some (.map (some b))) (hy:ev e y=some (enc a)) (hm:Mp enc w0 b L) (hk:Keeps φ b w0):
  Does P n e ⟨dst,.lookup τ x y true,t,p,af,g⟩ φ (.tuple #[.int .i64 ((S9 L a).getD 0),.bool (S9 L a).isSome]):=fun ac w ha hw=>by
 have hm':Mp enc w b L:=by obtain ⟨es,clock,hb,r⟩:=hm;exact ⟨es,clock,(hk w hw).trans hb,r⟩
 simp [execOp,ha.ev hx,ha.ev hy,Db7 K ht hz hm' a true]
theorem Cr2 {α:Type} {enc:α→Value} {τ k el:TypeId} {x:Operand} {b:Nat} {L:List (α × Int)} {w0:World} (ht:mpB P τ k el=true) (hx:ev e x=some (.map (some b))) (hm:Mp enc w0 b L) (hk:Keeps φ b w0):
  Does P n e ⟨dst,.call { callee:=.builtin .len,args:= #[x],argTypes:= #[τ] },t,p,af,g⟩ φ (.int .i64 L.length):=fun ac w ha hw=>by
 obtain ⟨es,clock,hb,hn,hc,hL⟩:=hm;have hb':=(hk w hw).trans hb;have:es.toList.length=L.length:=by have:=congrArg List.length hL;simpa [kvs] using this
 simp at this;simp [execOp,resolve,invoke,builtin,ha.ev hx,Builtin.len_,run_underlying (Ax9 ht),MapKept.run_getObj_map hb',goInt,this]
theorem Bg9 {w:World} {b:Nat} {o o':Obj} (h:w.heap[b]?=some o):(setBlock w b o').heap[b]?=some o':=by
 have hl:=(Eo5.1 h).1;simp [setBlock,hl]
theorem Cy8 {w:World} {b:Nat} {o':Obj}:Chg [b] w (setBlock w b o'):=⟨rfl,rfl,rfl,by simp [setBlock],fun k _ hk=>by
 have:¬ b=k:=fun h=>hk (by simp [h])
 simp [setBlock,Array.getElem?_setIfInBounds_ne this]⟩
theorem At8 (es:Array MapEntry) (i:Nat) (f:MapEntry→MapEntry):(es.modify i f).toList=es.toList.modify i f:=by simp
theorem asc_some {L:List (α × Int)}:∀ {i:Nat} {a:α} {q:Nat × Int},asc L i a=some q→i≤q.1∧∃ v,L[q.1 - i]?=some (a,v)∧∀ u,Ba4 L a u=L.set (q.1 - i) (a,u):=by
 induction L with
 |nil=>intro i a q h;cases h
 |cons x r ih=>
  intro i a q h;simp only [asc] at h
  split at h
  ·rename_i he
   cases h
   refine ⟨El1 _,x.2,by simp [he],fun u=>?_⟩;rw [Ag8,Ek1 he,he];simp
  ·rename_i he
   obtain ⟨h1,v,h2,h3⟩:=ih h
   refine ⟨by omega,v,?_,fun u=>?_⟩
   ·rw [show q.1 - i=(q.1 - (i+1))+1 from by omega,Es1];exact h2
   ·rw [Ag8,Ek0 he,h3,show q.1 - i=(q.1 - (i+1))+1 from by omega,List.set_cons_succ]
theorem asc_none {L:List (α × Int)}:∀ {i:Nat} {a:α},asc L i a=none→∀ u,Ba4 L a u=L++[(a,u)]:=by
 induction L with
 |nil=>intro i a h u;rfl
 |cons x r ih=>
  intro i a h u;simp only [asc] at h
  split at h
  ·cases h
  ·rename_i he
   rw [Ag8,Ek0 he,ih h u];rfl
theorem run_upd {τ k el:TypeId} {b:Nat} {L:List (α × Int)} (K:KL P k enc) (ht:mpB P τ k el=true) (hm:Mp enc w b L) (a:α) (v:Int):
  ∃ w',(Instr.mapUpdate τ (.map (some b)) (enc a) (.int .i64 v)).run P w= .ok () w'∧Chg [b] w w'∧w'.heap.size=w.heap.size∧Mp enc w' b (Ba4 L a v):=by
 obtain ⟨es,clock,hb,hn,hc,hL⟩:=hm
 cases hf:asc L 0 a with
 |none=>
  refine ⟨setBlock w b (.map (es.push { key:=enc a,val:=.int .i64 v,born:=clock }) (clock+1)),?_,Cy8,by simp [setBlock],_,_,Bg9 hb,?_,?_,?_⟩
  ·simp [Instr.mapUpdate,run_underlying (Ax9 ht),MapKept.run_getObj_map hb,K.check,K.find a L es.toList w hL,hf,MapKept.run_setObj_map _ hb,setBlock]
  ·simp only [Array.toList_push,Eo8,En3,List.map_nil];rw [List.nodup_append];refine ⟨hn,by simp,fun x hx y hy=>?_⟩;obtain ⟨z,hz,rfl⟩:=Eo9.1 hx;have:=hc z hz;simp at hy;omega
  ·intro x hx;simp only [Array.toList_push,En7,Ek3] at hx
   rcases hx with hx|rfl
   ·have:=hc x hx;omega
   ·simp
  ·rw [asc_none hf v];simp only [Array.toList_push,Eo8,En3,List.map_nil,hL,kvs]
 |some q=>
  obtain ⟨h1,u,h2,h3⟩:=asc_some hf;simp only [Nat.sub_zero] at h2 h3;have hlen:es.toList.length=L.length:=by have:=congrArg List.length hL;simpa [kvs] using this
  have hq:q.1<L.length:=(Em5.1 h2).1;have hq':q.1<es.size:=by simpa [← hlen] using hq
  have hkey:es[q.1].key=enc a:=by
   have:=congrArg (fun l=>l[q.1]?) hL;simp [kvs,h2,hq'] at this;exact this.1
  have hk1:∀ w,(Instr.keyThatStays (enc a) (enc a)).run P w= .ok (enc a) w:=fun w=>by simp [Instr.keyThatStays,K.same]
  refine ⟨setBlock w b (.map (es.modify q.1 fun x=>{ x with key:=enc a,val:=.int .i64 v }) clock),?_,Cy8,by simp [setBlock],_,_,Bg9 hb,?_,?_,?_⟩
  ·simp [Instr.mapUpdate,run_underlying (Ax9 ht),MapKept.run_getObj_map hb,K.check,K.find a L es.toList w hL,hf,MapKept.run_setObj_map _ hb,setBlock,hq',hkey,hk1]
  ·rw [At8,show (es.toList.modify q.1 fun x=>{ x with key:=enc a,val:=.int .i64 v }).map (·.born)=es.toList.map (·.born) from ?_]
   ·exact hn
   ·apply Em4;intro i;simp only [El8,List.getElem?_modify]
    cases es.toList[i]? with
    |none=>rfl
    |some x=>simp;split<;>rfl
  ·rw [At8];intro x hx;obtain ⟨i,hi⟩:=List.mem_iff_getElem?.1 hx;rw [List.getElem?_modify] at hi
   cases hx0:es.toList[i]? with
   |none=>rw [hx0] at hi;cases hi
   |some y=>
    rw [hx0] at hi;have:=hc y (List.mem_iff_getElem?.2 ⟨i,hx0⟩);simp at hi;rw [← hi]
    split<;>exact this
  ·rw [At8,h3 v];apply Em4;intro i;have hLi:=congrArg (fun l=>l[i]?) hL;simp only [El8,kvs] at hLi;simp only [El8,List.getElem?_modify,kvs,En1]
   by_cases hi:q.1=i
   ·subst hi;rw [Ek1 J,Ek1 hq];rw [show es.toList[q.1]?=some es[q.1] from by simp [hq']];simp
   ·rw [Ek0 hi];rw [← hLi]
    cases es.toList[i]? with
    |none=>rfl
    |some x=>simp [hi]
theorem Bp6 {τ k el:TypeId} {x y z:Operand} {b:Nat} {L:List (α × Int)} {a:α} {v:Int} {q:Op} (ho:q= .mapUpdate τ x y z∨q= .insert τ x y z) (K:KL P k enc) (ht:mpB P τ k el=true) (hx:ev e x=some (.map (some b))) (hy:ev e y=some (enc a)) (hz:ev e z=some (.int .i64 v)) (hm:Mp enc w b L)
  (h:∀ w',w'.heap.size=w.heap.size→Chg [b] w w'→Mp enc w' b (Ba4 L a v)→EP P n ops S N B R rest e w'):EP P n ops S N B R ((2,⟨none,q,t,p,af,none⟩)::rest) e w:=by
 obtain ⟨w',hr,h2,h3,h4⟩:=run_upd K ht hm a v;refine EP.s2 (fun ac ha=>?_) (h w' h3 h2 h4);rcases ho with rfl|rfl<;>simp [execOp,ha.ev hx,ha.ev hy,ha.ev hz,hr]
theorem Ae6 {α:Type} {τ:TypeId} (enc:α→Value) (hd:Nat.blt d n=true)
  (h:∀ b w',b=w.heap.size→w'.heap.size=b+1→Chg [] w w'→Mp enc w' b []→EP P n ops S N B R rest ((d,.map (some b))::e) w'):EP P n ops S N B R ((2,⟨some d,.makeMap τ none,t,p,af,none⟩)::rest) e w:=
 Cz7 (w':=w.alloc (.map #[] 0)) hd (fun ac ha=>by simp [execOp,Instr.makeMap]) (h _ _ J (by simp) (Chg.alloc [] w _) ⟨#[],0,heap_alloc_new w _,by simp,by simp,rfl⟩)
end
def It (enc:α→Value) (w:World) (r m:Nat) (L R:List (α × Int)):Prop:=
 ∃ es clock seen c0,w.heap[r]?=some (.mapIter (some m) clock seen c0)∧clock≤c0∧w.heap[m]?=some (.map es clock)∧(es.toList.map (·.born)).Nodup∧(∀ x∈es.toList,x.born<clock)∧
  es.toList.map (fun x=>(x.key,x.val))=kvs enc L∧(leftOf es seen).toList.map (fun x=>(x.key,x.val))=kvs enc R
def ItAt (enc:α→Value) (w:World) (r m:Nat) (x:α × Int):Prop:=
 ∃ es clock seen en,w.heap[r]?=some (.mapIter (some m) clock (Array.push seen en.born) clock)∧w.heap[m]?=some (.map es clock)∧en∈es.toList∧(es.toList.map (·.born)).Nodup∧en.key=enc x.1∧en.val= .int .i64 x.2
theorem It.q {α:Type} {enc:α→Value} {S:List Nat} {w w':World} {r m:Nat} {L R:List (α × Int)} (h:It enc w r m L R) (k:Chg S w w') (hS:r∉S∧m∉S):It enc w' r m L R:=by
 obtain ⟨es,clock,seen,c0,h1,h2,h3,h4⟩:=h;exact ⟨es,clock,seen,c0,(k.same r (Eo5.1 h1).1 hS.1).trans h1,h2,(k.same m (Eo5.1 h3).1 hS.2).trans h3,h4⟩
theorem It.u {α:Type} {enc:α→Value} {w w':World} {r m:Nat} {L R:List (α × Int)} (h:It enc w r m L R) (k:Chg [] w w'):It enc w' r m L R:=h.q k (by simp)
theorem It.lt {α:Type} {enc:α→Value} {w:World} {r m:Nat} {L R:List (α × Int)} (h:It enc w r m L R):r<w.heap.size∧m<w.heap.size∧r≠m:=by
 obtain ⟨es,clock,seen,c0,h1,h2,h3,h4⟩:=h;refine ⟨(Eo5.1 h1).1,(Eo5.1 h3).1,?_⟩;rintro rfl;rw [h1] at h3
 cases h3
theorem Cx6 {es:List MapEntry} (hn:(es.map (·.born)).Nodup):∀ {A B:List MapEntry} {x:MapEntry},es=A++x::B→es.filter (fun y=> !(y.born==x.born))=A++B:=by
 intro A B x h;subst h;simp only [Eo8,En3,List.nodup_append,Eu8] at hn;rw [Eq5,Et4];simp only [beq_self_eq_true,Bool.not_true,Er7,if_false]
 congr 1
 ·rw [List.filter_eq_self];intro y hy;have:=hn.2.2 y.born (Eo9.2 ⟨y,hy,rfl⟩) x.born (Em1 ..)
  simpa using this
 ·rw [List.filter_eq_self];intro y hy;have:y.born≠x.born:=fun e=>hn.2.1.1 (by rw [← e];exact Eo9.2 ⟨y,hy,rfl⟩)
  simpa using this
theorem Ea9 (es:Array MapEntry) (seen:Array Nat) (b:Nat):(leftOf es (seen.push b)).toList=(leftOf es seen).toList.filter (fun y=> !(y.born==b)):=by
 unfold leftOf;rw [Array.toList_filter,Array.toList_filter,List.filter_filter]
 congr 1
 funext y
 rw [contains_push]
 cases seen.contains y.born<;>cases y.born==b<;>rfl
section
variable {P:Program} {n:Nat} {ops:Array Oper} {S:World→Prop} {N:Env→World→Prop} {B:Nat→Env→World→Prop} {R:Env→World→Prop} {e:Env} {w:World}
variable {rest:List (Nat × Oper)} {d:Nat} {op:Op} {t:TypeId} {p:String} {af:Array Edge} {dst:Option Tmp} {g:Option (Nat × Bool)} {φ:World→Prop}
theorem Bp7 {α:Type} {enc:α→Value} {τ k el:TypeId} {x:Operand} {m:Nat} {L:List (α × Int)} (hd:Nat.blt d n=true) (ht:mpB P τ k el=true) (hx:ev e x=some (.map (some m))) (hm:Mp enc w m L)
  (h:∀ b w',b=w.heap.size→w'.heap.size=b+1→Chg [] w w'→It enc w' b m L L→EP P n ops S N B R rest ((d,.pointer (some ⟨b,0,none⟩))::e) w'):EP P n ops S N B R ((2,⟨some d,.range τ x,t,p,af,none⟩)::rest) e w:=by
 have hml:=hm.lt;obtain ⟨es,clock,hb,hn,hc,hL⟩:=hm;refine Cz7 (v:=.pointer (some ⟨w.heap.size,0,none⟩)) (w':=w.alloc (.mapIter (some m) clock #[] clock)) hd (fun ac ha=>by simp [execOp,ha.ev hx,run_range_map w τ k el m es clock (Ax9 ht) hb]) ?_;refine h _ _ J (by simp) (Chg.alloc [] w _) ⟨es,clock, #[],clock,heap_alloc_new w _,El1 _,((Chg.alloc [] w _).same _ hml (by simp)).trans hb,hn,hc,hL,?_⟩;unfold leftOf;rw [Array.toList_filter,List.filter_eq_self.2 (fun x _=>by simp)];exact hL
theorem Cg0 {α:Type} {enc:α→Value} {it:Operand} {r m:Nat} {L M:List (α × Int)} (hd:Nat.blt d n=true) (hx:ev e it=some (.pointer (some ⟨r,0,none⟩))) (hI:It enc w r m L M)
  (h0:M=[]→EP P n ops S N B R rest ((d,.tuple #[.bool false])::e) w)
  (h1:∀ M1 x M2 w',M=M1++x::M2→Chg [r] w w'→w'.heap.size=w.heap.size→It enc w' r m L (M1++M2)→ItAt enc w' r m x→EP P n ops S N B R rest ((d,.tuple #[.bool true,enc x.1,.int .i64 x.2])::e) w'):
  EP P n ops S N B R ((2,⟨some d,.next it false,t,p,af,none⟩)::rest) e w:=by
 have hne:=hI.lt;obtain ⟨es,clock,seen,c0,hr,hc0,hb,hn,hc,hL,hM⟩:=hI
 rcases run_next_at (P:=P) w t r m clock c0 seen es clock hr hb hc hc0 with ⟨h2,h3⟩|⟨en,h2,w1,h3,h4⟩
 ·have hM0:M=[]:=by
   have:(leftOf es seen).toList.length=M.length:=by have:=congrArg List.length hM;simpa [kvs] using this
   exact Eq6 (by rw [← this];simpa using h2)
  exact Cz7 hd (fun ac ha=>by simp [execOp,ha.ev hx,h3]) (h0 hM0)
 ·obtain ⟨A,B',hAB⟩:=List.append_of_mem h2;have hM':=hM;rw [hAB,Eo8,En3] at hM';unfold kvs at hM';obtain ⟨M1,M',hMM,hA1,hA2⟩:=List.map_eq_append_iff.1 hM'.symm;obtain ⟨x,M2,rfl,hx2,hB2⟩:=List.map_eq_cons_iff.1 hA2;simp only [Er8] at hx2;have hes:en∈es.toList:=(mem_left h2).1;have hw1:w1.heap=w.heap∧w1.os=w.os∧w1.tape=w.tape∧w1.output=w.output:=by rcases h3 with rfl|rfl<;>exact ⟨rfl,rfl,rfl,rfl⟩
  have hr1:w1.heap[r]?=some (.mapIter (some m) clock seen c0):=by rw [hw1.1];exact hr
  have hb1:w1.heap[m]?=some (.map es clock):=by rw [hw1.1];exact hb
  have hcg:Chg [r] w (setBlock w1 r (.mapIter (some m) clock (seen.push en.born) clock)):=by
   have hk:=Cy8 (w:=w1) (b:=r) (o':=.mapIter (some m) clock (seen.push en.born) clock);exact ⟨hk.os.trans hw1.2.1,hk.tape.trans hw1.2.2.1,hk.output.trans hw1.2.2.2,by rw [← hw1.1];exact hk.size,fun b hb hnb=>by rw [hk.same b (by rw [hw1.1];exact hb) hnb,hw1.1]⟩
  have hbm:(setBlock w1 r (.mapIter (some m) clock (seen.push en.born) clock)).heap[m]?=some (.map es clock):=by
   have:¬ r=m:=hne.2.2;simp [setBlock,Array.getElem?_setIfInBounds_ne this,hb1]
  refine Cz7 hd (v:=.tuple #[.bool true,enc x.1,.int .i64 x.2]) (fun ac ha=>by simp only [execOp,ha.ev hx,Sem.run_bind,h4,Result.andThen_ok,← hx2.1,← hx2.2];rfl) ?_;refine h1 M1 x M2 _ hMM hcg (by simp [setBlock,hw1.1]) ⟨es,clock,seen.push en.born,clock,Bg9 hr1,El1 _,hbm,hn,hc,hL,?_⟩ ⟨es,clock,seen,en,Bg9 hr1,hbm,hes,hn,hx2.1.symm,hx2.2.symm⟩
  have hnl:((leftOf es seen).toList.map (·.born)).Nodup:=by
   unfold leftOf;rw [Array.toList_filter];exact hn.sublist ((List.filter_sublist).map _)
  rw [Ea9,Cx6 hnl hAB,Eo8];unfold kvs;rw [Eo8,← hA1,← hB2]
theorem Bd1 {α:Type} {enc:α→Value} {it:Operand} {r m:Nat} {x:α × Int} (hx:ev e it=some (.pointer (some ⟨r,0,none⟩))) (hI:ItAt enc w r m x):Does P n e ⟨dst,.entry it,t,p,af,g⟩ (fun w'=>w'=w) (.tuple #[enc x.1,.int .i64 x.2]):=fun ac w' ha hw=>by
 subst hw;obtain ⟨es,clock,seen,en,hr,hb,hes,hn,h1,h2⟩:=hI;have:=run_entry_at (P:=P) w' r m clock seen es clock en hr hb hes hn;simp [execOp,ha.ev hx,this,h1,h2]
end
end
def ik (a:Int):Value:=.int .i64 a
theorem Df1 {P:Program} {k:TypeId} (hk:P.underlying k=some (.int .i64)):KL P k ik where
 check:=fun e a w=>by
  unfold Instr.checkKey ik;simp [run_underlying hk]
 find:=fun a L es w h=>by
  have key:∀ (L:List (Int × Int)) (es:List MapEntry) (i:Nat),es.map (fun x=>(x.key,x.val))=kvs ik L→Instr.findNow (.int .i64) (ik a) es i=some ((asc L i a).map fun q=>(q.1,.int .i64 q.2)):=by
   intro L
   induction L with
   |nil=>intro es i h;simp [kvs] at h;subst h;rfl
   |cons p r ih=>
    intro es i h
    cases es with
    |nil=>simp [kvs] at h
    |cons x es=>
     simp only [En3,kvs,Eu7,Er8] at h;obtain ⟨⟨h1,h2⟩,h3⟩:=h;simp only [Instr.findNow,h1,h2,asc]
     by_cases hc:a=p.1
     ·rw [Ek1 hc];simp [ik,Instr.sameNow,hc]
     ·rw [Ek0 hc];have:(a==p.1)=false:=by simpa using hc
      simp only [ik,Instr.sameNow,if_true,this];exact ih es (i+1) h3
  simp [Instr.findKey,run_underlying hk,key L es 0 h]
 same:=fun a=>by unfold Instr.sameBits ik;simp
end Go.Clt
end
namespace Go.Clt
open Go Go.RowKit Go.Proofs
abbrev BagF:=Nat→Int
def Bf9 (f g:BagF) (by_:Int):BagF:=fun i=>W1 (f i) (Ac2 (g i) by_)
def one1 (p:Nat):BagF:=fun i=>if i=p then 1 else 0
def Q6:BagF:=fun _=>0
structure Kn where
 void:Int
 first:BagF
 last:BagF
structure Wst where
 S:List Nat
 G:List BagF
def Ay2 (G:List BagF) (f g:BagF):List BagF:=G.mapIdx fun i h=>Bf9 h g (f i)
def Bt2 (q:Wst) (s:Nat):Kn × Wst:=(⟨0,one1 q.S.length,one1 q.S.length⟩,⟨q.S++[s],q.G++[Q6]⟩)
def M0:Cor→Wst→Kn × Wst
 | .empty,q=>(⟨1,Q6,Q6⟩,q)
 | .set s,q=>Bt2 q s
 | .cat a b,q=>
  let x:=M0 a q
  let y:=M0 b x.2
  (⟨Ac2 x.1.void y.1.void,Bf9 x.1.first y.1.first x.1.void,Bf9 y.1.last x.1.last y.1.void⟩,⟨y.2.S,Ay2 y.2.G x.1.last y.1.first⟩)
 | .alt a b,q=>
  let x:=M0 a q
  let y:=M0 b x.2
  (⟨W1 x.1.void y.1.void,Bf9 x.1.first y.1.first 1,Bf9 x.1.last y.1.last 1⟩,y.2)
 | .star _ a,q=>
  let x:=M0 a q
  (⟨1,x.1.first,x.1.last⟩,⟨x.2.S,Ay2 x.2.G x.1.last x.1.first⟩)
def BagL (L:List (Int × Int)) (f:BagF) (n:Nat):Prop:=(L.map (·.1)).Nodup∧(∀ x∈L,0≤x.1∧x.1<n∧0≤x.2∧x.2≤9223372036854775807)∧∀ i:Nat,f i=(S9 L (i:Int)).getD 0
def Bag (w:World) (b:Nat) (f:BagF) (n:Nat):Prop:=∃ L,Mp ik w b L∧BagL L f n
theorem Bag.q {S:List Nat} {w w':World} {b n:Nat} {f:BagF} (h:Bag w b f n) (k:Chg S w w') (hb:b∉S):Bag w' b f n:=by
 obtain ⟨L,h1,h2⟩:=h;exact ⟨L,h1.q k hb,h2⟩
theorem Bag.u {w w':World} {b n:Nat} {f:BagF} (h:Bag w b f n) (k:Chg [] w w'):Bag w' b f n:=h.q k (by simp)
theorem Bag.lt {w:World} {b n:Nat} {f:BagF} (h:Bag w b f n):b<w.heap.size:=by obtain ⟨L,h1,h2⟩:=h;exact h1.lt
theorem BagL.grow {L:List (Int × Int)} {f:BagF} {n m:Nat} (h:BagL L f n) (hm:n≤m):BagL L f m:=⟨h.1,fun x hx=>by have:=h.2.1 x hx;omega,h.2.2⟩
theorem Bag.grow {w:World} {b n m:Nat} {f:BagF} (h:Bag w b f n) (hm:n≤m):Bag w b f m:=by obtain ⟨L,h1,h2⟩:=h;exact ⟨L,h1,h2.grow hm⟩
theorem Bag.neBlk {w:World} {b n b':Nat} {f:BagF} {cs:List Value} {τ:TypeId} (h:Bag w b f n) (h':Blk w b' cs τ):b≠b':=by obtain ⟨L,h1,h2⟩:=h;exact h1.neBlk h'
theorem Bu1 {L:List (Int × Int)} {n:Nat} (h:∀ x∈L,0≤x.1∧x.1<n∧0≤x.2∧x.2≤9223372036854775807) (k:Int):0≤(S9 L k).getD 0∧(S9 L k).getD 0≤9223372036854775807:=by
 cases hm:S9 L k with
 |none=>simp
 |some v=>have:=h _ (P4 hm);simp only [Eo1];omega
theorem BagL.range {L:List (Int × Int)} {f:BagF} {n:Nat} (h:BagL L f n) (i:Nat):0≤f i∧f i≤9223372036854775807:=by rw [h.2.2];exact Bu1 h.2.1 _
theorem Bag.range {w:World} {b n:Nat} {f:BagF} (h:Bag w b f n) (i:Nat):0≤f i∧f i≤9223372036854775807:=by obtain ⟨L,h1,h2⟩:=h;exact h2.range i
theorem Az8 (n:Nat):BagL [] Q6 n:=⟨by simp,by simp,fun i=>rfl⟩
theorem Di2 {L:List (Int × Int)} {f:BagF} {n:Nat} (h:BagL L f n) (p:Nat) (hp:p<n) (v:Int) (hv:0≤v∧v≤9223372036854775807):BagL (Ba4 L p v) (fun i=>if i=p then v else f i) n:=by
 refine ⟨Dm5 h.1 _ _,fun x hx=>?_,fun i=>?_⟩
 ·rcases Ax8 hx with rfl|hx
  ·simp only;omega
  ·exact h.2.1 x hx
 ·rw [Z3];show (if i=p then v else f i)=_
  by_cases hi:i=p
  ·rw [Ek1 hi,Ek1 (by omega)];rfl
  ·rw [Ek0 hi,Ek0 (by omega)];exact h.2.2 i
theorem Aw0 (a b:Int) (ha:0≤a) (ha2:a≤9223372036854775807):Av6 [a,b]=W1 a b:=by
 have:W1 0 a=a:=by unfold W1;omega
 simp [Av6,this]
theorem Aw1 (a b:Int) (ha:0≤a) (ha2:a≤9223372036854775807):Ar4 [a,b]=Ac2 a b:=by
 have h1:Ac2 1 a=a:=by unfold Ac2;rw [show max (1:Int) 0=1 from rfl,Int.one_mul];omega
 unfold Ar4
 by_cases h:a≤0∨b≤0
 ·rw [Ek1 (by simp;omega)];unfold Ac2
  have:max a 0*max b 0=0:=by
   rcases h with h|h
   ·rw [show max a 0=0 from by omega,Int.zero_mul]
   ·rw [show max b 0=0 from by omega,Int.mul_zero]
  rw [this];rfl
 ·rw [Ek0 (by simp;omega)];simp [h1]
theorem Ci3 (a:Int):Ac2 a 0=0:=by unfold Ac2;rw [show max (0:Int) 0=0 from rfl,Int.mul_zero];rfl
theorem Dk5 (a:Int):Ac2 0 a=0:=by unfold Ac2;rw [show max (0:Int) 0=0 from rfl,Int.zero_mul];rfl
theorem smul_one (a:Int) (h:0≤a∧a≤9223372036854775807):Ac2 a 1=a:=by unfold Ac2;rw [show max (1:Int) 0=1 from rfl,Int.mul_one];omega
theorem Bi4 (a:Int) (h:0≤a∧a≤9223372036854775807):W1 a 0=a:=by unfold W1;omega
theorem Dk8 (a:Int) (h:0≤a∧a≤9223372036854775807):W1 0 a=a:=by unfold W1;omega
def midF (f g:BagF) (by_:Int) (R:List (Int × Int)):BagF:=fun i=>if (S9 R (i:Int)).isSome then f i else W1 (f i) (Ac2 (g i) by_)
theorem Dz4 {f g:BagF} {by_:Int} {L:List (Int × Int)} {n:Nat} (hg:BagL L g n) (hf:∀ i,0≤f i∧f i≤9223372036854775807):midF f g by_ L=f:=by
 funext i
 unfold midF
 split
 ·rfl
 ·rename_i h
  have:g i=0:=by
   rw [hg.2.2]
   cases hm:S9 L (i:Int) with
   |none=>rfl
   |some v=>rw [hm] at h;simp at h
  rw [this,Dk5,Bi4 _ (hf i)]
theorem mid_end {f g:BagF} {by_:Int}:midF f g by_ []=Bf9 f g by_:=by
 funext i;unfold midF Bf9;rw [Ek0 (by simp [Ai6])]
theorem Af9 {L R1 R2:List (Int × Int)} {x:Int × Int} (hn:(L.map (·.1)).Nodup) (hs:(R1++x::R2).Sublist L):(R1++R2).Sublist L∧S9 (R1++R2) x.1=none∧(∀ c,c≠x.1→S9 (R1++R2) c=S9 (R1++x::R2) c)∧S9 (R1++x::R2) x.1=some x.2∧S9 L x.1=some x.2:=by
 have hn2:((R1++x::R2).map (·.1)).Nodup:=hn.sublist (hs.map _);have hs2:(R1++R2).Sublist (R1++x::R2):=List.Sublist.append (List.Sublist.refl _) (List.sublist_cons_self _ _);have hn3:((R1++R2).map (·.1)).Nodup:=hn2.sublist (hs2.map _);have hx:S9 (R1++x::R2) x.1=some x.2:=At9 hn2 (by simp)
 refine ⟨hs2.trans hs,?_,fun c hc=>?_,hx,At9 hn (hs.subset (by simp))⟩
 ·cases hm:S9 (R1++R2) x.1 with
  |none=>rfl
  |some v=>
   exfalso;have h1:=P4 hm;rw [Eo8,En3,List.nodup_append] at hn2;obtain ⟨_,h3,h4⟩:=hn2
   rcases En7.1 h1 with h|h
   ·exact h4 x.1 (Eo9.2 ⟨_,h,rfl⟩) x.1 (Em1 ..) J
   ·exact (Eu8.1 h3).1 (Eo9.2 ⟨_,h,rfl⟩)
 ·cases hm:S9 (R1++x::R2) c with
  |none=>
   cases hm2:S9 (R1++R2) c with
   |none=>rfl
   |some v=>exact absurd rfl (Dz7 hm _ (hs2.subset (P4 hm2)))
  |some v=>
   have h1:=P4 hm;refine At9 hn3 ?_
   rcases En7.1 h1 with h|h
   ·exact List.mem_append_left _ h
   ·rcases Eo4.1 h with h|h
    ·exact absurd (by rw [← h]) hc
    ·exact List.mem_append_right _ h
theorem mid_step {f g:BagF} {by_:Int} {L R1 R2:List (Int × Int)} {k:Nat} {v:Int} {n:Nat} (hg:BagL L g n) (hs:(R1++((k:Int),v)::R2).Sublist L) (hby:0≤by_):
  midF f g by_ (R1++R2)=(fun i=>if i=k then W1 (midF f g by_ (R1++((k:Int),v)::R2) k) (Ac2 v by_) else midF f g by_ (R1++((k:Int),v)::R2) i):=by
 obtain ⟨h1,h2,h3,h4,h5⟩:=Af9 hg.1 hs
 funext i
 by_cases hi:i=k
 ·subst hi;rw [Ek1 J];unfold midF;simp only at h2 h4 h5;rw [h2,h4];simp only [Option.isSome_none,Er7,if_false,Option.isSome_some,if_true];rw [hg.2.2 i,h5]
  rfl
 ·rw [Ek0 hi];unfold midF;rw [h3 (i:Int) (by simp only;omega)]
theorem Cf4 (b m n:Nat) (f g:BagF) (by_:Int) (w:World) (hb:Bag w b f n) (hm:Bag w m g n) (hne:b≠m) (hby:0≤by_∧by_≤9223372036854775807):
  Calls P 161 #[.map (some b),.map (some m),.int .i64 by_] w (Ret fun v w'=>Chg [b] w w'∧Bag w' b (Bf9 f g by_) n):=by
 have hC:=A8 [b] w;obtain ⟨L,hM,hL⟩:=hm;have hfr:=hb.range;have hbl:=hb.lt
 refine D4 Tryz.func161 J J (Qa (Qd (Zc 2 J (A4 J (fun h0=>?_) (fun h0=>?_)))))
 ·try simp at h0
  refine A6 (T5 J ⟨hC,?_⟩);have:Bf9 f g by_=f:=by funext i;unfold Bf9;rw [h0,Ci3,Bi4 _ (hfr i)]
  rw [this];exact hb
 ·try simp at h0
  refine A7 (Qd (Z 1 J (Bp7 (k:=3) (el:=3) J Cu7 J hM ?_)));intro b1 w1 hb1 hs1 hx1 hI1;have hC:=hC.s0 hx1;have hb:=hb.u hx1
  refine Qc (B2 (D8 (σ:=List (Int × Int)) (fun R=>[(0,.map (some b)),(2,.int .i64 by_),(11,.pointer (some ⟨b1,0,none⟩))]) (fun R wr=>Chg [b] w wr∧It ik wr b1 m L R∧Bag wr b (midF f g by_ R) n∧R.Sublist L) (fun R wr=>R.length) L (sb J) ?_ ?_))
  ·refine ⟨hC,hI1,?_,List.Sublist.refl _⟩;rw [Dz4 hL hfr];exact hb
  rintro R w9 ⟨hC,hI,hb,hs⟩;have hlt:=hI.lt;have hbm1:b1≠b:=by omega
  refine Qd (Cg0 J J hI (fun hE=>?_) ?_)
  ·refine Zc 1 J (Qa (E4 J (Xb (T5 J ?_))));rw [hE,mid_end] at hb;exact ⟨hC,hb⟩
  ·rintro L1 ⟨xk,xv⟩ L2 w2 hML hx2 hs2 hI2 hA2;have hb:=hb.q hx2 (by simp;omega)
   replace hI:=hI2
   subst hML;obtain ⟨hp0,hp1,hv0,hv1⟩:=hL.2.1 (xk,xv) (hs.subset (by simp));obtain ⟨k,rfl⟩:=Ep8 hp0;simp only at hp0 hp1 hv0 hv1;obtain ⟨Lb,hMb,hLb⟩:=hb;have hmr:=Bu1 hLb.2.1 (k:Int);refine Zc 1 J (Qa (E3 J (A7 (B2 (Qd (C9 J (Bd1 J ‹_›) ?_))))));refine Zc 4 J (C8 (S:=[]) 11 [(0,0),(0,1),(0,2),(0,3),(0,4),(0,5),(0,6),(1,7),(1,8),(1,9),(1,10),(2,11)] mo (by kernel_rfl) ?_);intro w3 hx3 hh3;have hMb:=hMb.u hx3;have hCS3:=A8 ([]) w3;refine Z 4 J (D6 J (Ej6 (Df1 Tryz.underlying3) Cu7 zr3 J J hMb (Keeps.q hMb.lt (by simp<;>omega))) ?_);refine Z 2 J (E2 J (B7 T8 Tryz.underlying24 zr3 J J J (by rfl)) ?_);intro b4 w4 hb4 hs4 hx4 hB4;have hz4:=hx4.size;have hCS3:=hCS3.s0 hx4;refine ⟨hCS3,?_⟩;refine C5 J (C3 fb84 J) (De1 [xv,by_] _ _ _ _ _ ‹_› J (by intro x hx;simp at hx;omega) (by simp)) ?_;rintro _ _ ⟨rfl,rfl⟩;refine ⟨hCS3,?_⟩;refine E2 J (B7 T8 Tryz.underlying24 zr3 J J J (by rfl)) ?_;intro b6 w6 hb6 hs6 hx6 hB6;have hz6:=hx6.size;have hMb:=hMb.u (hx4.s0 hx6);have hCS3:=hCS3.s0 hx6;have hB4:=hB4.u hx6;refine ⟨hCS3,?_⟩;refine C5 J (C3 fb46 J) (Az9 [(S9 Lb (k:Int)).getD 0,Ar4 [xv,by_]] _ _ _ _ _ ‹_› J (by have:=As9 [xv,by_] (by intro x hx;simp at hx;omega);intro x hx;simp at hx;omega) (by simp)) ?_;rintro _ _ ⟨rfl,rfl⟩;refine ⟨hCS3,?_⟩;refine Bp6 (Or.inl J) (Df1 Tryz.underlying3) Cu7 J J J hMb ?_;intro w8 hs8 hx8 hM8;have hC:=hC.step ((((hx2.j hx3).j hx4).j hx6).j hx8) (by simp<;>omega);have hI:=hI.q (((hx3.j hx4).j hx6).j hx8) (by simp<;>omega)
   replace hMb:=hM8
   refine Qc ⟨L1++L2,sb J,?_,?_⟩;refine ⟨hC,hI,⟨_,hMb,?_⟩,(Af9 hL.1 hs).1⟩;rw [Aw1 _ _ hv0 hv1,Aw0 _ _ hmr.1 hmr.2,← hLb.2.2 k,mid_step hL hs hby.1];exact Di2 hLb k (by omega) _ (M8 _ _);simp
theorem Bh2 (b m n:Nat) (f g:BagF) (by_:Int) (w:World) (hb:Bag w b f n) (hm:Bag w m g n) (hby:0≤by_∧by_≤9223372036854775807):
  Calls P 134 #[.map (some b),.map (some m),.int .i64 by_] w (Ret fun v w'=>Chg [] w w'∧∃ o,v= .map (some o)∧w.heap.size≤o∧Bag w' o (Bf9 f g by_) n):=by
 have hC:=A8 [] w;have hfr:=hb.range;have hbl:=hb.lt;have hml:=hm.lt;refine D4 Tryz.func134 J J (Qd (Zc 1 J (Qd (Ae6 ik J ?_))));intro b1 w1 hb1 hs1 hx1 hM1;have hb:=hb.u hx1;have hZ:Bag w1 b1 Q6 n:=⟨[],hM1,Az8 n⟩;refine Zc 1 J (Qd (Z 2 J (Ca fb161 J (Cf4 b1 b n Q6 f 1 _ hZ hb (by omega) (by omega)) ?_)));rintro _ w2 ⟨hx2,hZ'⟩;have hm:=hm.q (hx1.j hx2) (by simp<;>omega);clear hZ;have hZ:=hZ';clear hZ';have hff:Bf9 Q6 f 1=f:=by funext i;unfold Bf9 Q6;rw [smul_one _ (hfr i),Dk8 _ (hfr i)]
 rw [hff] at hZ;refine Qc (Qd (Z 3 J (Ca fb161 J (Cf4 b1 m n f g by_ _ hZ hm (by omega) hby) ?_)));rintro _ w3 ⟨hx3,hZ'⟩;have hC:=hC.step ((hx1.j hx2).j hx3) (by simp<;>omega);clear hZ;have hZ:=hZ';clear hZ';exact Qc (Qd (Zc 2 J (A6 (B4 J J ⟨hC,b1,rfl,by omega,hZ⟩))))
def Ea0 (bs:List Nat):List Value:=bs.map fun b=>.map (some b)
theorem Cm0 (bs:List Nat) (k:Nat) (h:k<bs.length):(Ea0 bs)[k]?=some (.map (some (bs.getD k 0))):=by simp [Ea0,Ek4 h,Ek2]
def GB (w:World) (bs:List Nat) (G:List BagF) (n:Nat):Prop:=bs.length=G.length∧∀ i,i<bs.length→Bag w (bs.getD i 0) (G.getD i Q6) n
theorem GB.q {S:List Nat} {w w':World} {bs:List Nat} {G:List BagF} {n:Nat} (h:GB w bs G n) (k:Chg S w w') (hS:∀ x∈bs,x∉S):GB w' bs G n:=
 ⟨h.1,fun i hi=>(h.2 i hi).q k (hS _ (G9 bs 0 i hi))⟩
theorem GB.u {w w':World} {bs:List Nat} {G:List BagF} {n:Nat} (h:GB w bs G n) (k:Chg [] w w'):GB w' bs G n:=h.q k (by simp)
theorem GB.lt {w:World} {bs:List Nat} {G:List BagF} {n:Nat} (h:GB w bs G n):∀ x∈bs,x<w.heap.size:=fun x hx=>by
 obtain ⟨i,hi,rfl⟩:=Er2.1 hx;have:=(h.2 i hi).lt;rw [Ek2,Ek4 hi] at this;exact this
theorem GB.bag {w:World} {bs:List Nat} {G:List BagF} {n:Nat} (h:GB w bs G n) {x:Nat} (hx:x∈bs):∃ f,Bag w x f n:=by
 obtain ⟨i,hi,rfl⟩:=Er2.1 hx;have:=h.2 i hi;rw [Ek2,Ek4 hi] at this;exact ⟨_,this⟩
theorem GB.grow {w:World} {bs:List Nat} {G:List BagF} {n m:Nat} (h:GB w bs G n) (hm:n≤m):GB w bs G m:=⟨h.1,fun i hi=>(h.2 i hi).grow hm⟩
theorem GB.snoc {w:World} {bs:List Nat} {G:List BagF} {n b:Nat} {f:BagF} (h:GB w bs G n) (hb:Bag w b f n):GB w (bs++[b]) (G++[f]) n:=by
 refine ⟨by simp [h.1],fun i hi=>?_⟩;simp at hi
 by_cases h2:i<bs.length
 ·rw [Ek2,Em6 h2,Ek2,Em6 (by rw [← h.1];exact h2),← Ek2,← Ek2];exact h.2 i h2
 ·have:i=bs.length:=by omega
  subst this;rw [Ek2,Em2 (by omega),Ek2,Em2 (by rw [h.1];omega)]
  simpa [h.1] using hb
theorem GB.upd {w w':World} {bs:List Nat} {G:List BagF} {n k:Nat} {f:BagF} (h:GB w bs G n) (hn:bs.Nodup) (hk:k<bs.length) (hc:Chg [bs.getD k 0] w w') (hb:Bag w' (bs.getD k 0) f n):GB w' bs (G.set k f) n:=by
 refine ⟨by simp [h.1],fun i hi=>?_⟩
 by_cases hik:i=k
 ·subst hik;rw [Ek2 (l:=G.set i f),En1,Ek1 J,Ek1 (by rw [← h.1];exact hi)];exact hb
 ·rw [Ek2 (l:=G.set k f),En1,Ek0 (Ne.symm hik),← Ek2];refine (h.2 i hi).q hc ?_;rw [Ek3];rw [Ek2,Ek4 hi,Ek2,Ek4 hk];simp only [Eo1];intro he;have hp:=List.pairwise_iff_getElem.1 hn
  rcases Eq7 i k with h1|h1
  ·exact hp i k hi hk h1 he
  ·exact hp k i hk hi (by omega) he.symm
structure WBlk (w:World) (p:Nat) (q:Wst) (kv:List Value) (A:Option Addr) (c:Nat) (A2:Option Addr) (c2:Nat) (bs:List Nat):Prop where
 blk:Blk w p (kv++[.slice A q.S.length c,.slice A2 q.S.length c2]) 161
 kl:kv.length=3
 os:Own w (p+1) 70 4 A q.S.length c (F5 q.S)
 of_:Own w (p+1) 156 1 A2 q.S.length c2 (Ea0 bs)
 gb:GB w bs q.G q.S.length
 gl:q.G.length=q.S.length
 nd:bs.Nodup
 lo:∀ x∈bs,p<x
def wT (p:Nat) (A A2:Option Addr) (bs:List Nat):List Nat:=p::(F7 A++F7 A2++bs)
theorem K7 {p:Nat} {A A2:Option Addr} {bs:List Nat} {x:Nat}:x∈wT p A A2 bs↔x=p∨x∈F7 A∨x∈F7 A2∨x∈bs:=by simp [wT,or_assoc]
def IsW (w:World) (p:Nat) (q:Wst) (kv:List Value) (T:List Nat):Prop:=∃ A c A2 c2 bs,WBlk w p q kv A c A2 c2 bs∧T=wT p A A2 bs
theorem Own.notBag {w:World} {lo:Nat} {el:TypeId} {sz n c:Nat} {A:Option Addr} {cs:List Value} (h:Own w lo el sz A n c cs) {x m:Nat} {f:BagF} (hb:Bag w x f m):x∉F7 A:=by
 intro hx
 rcases h.form with ⟨hA,_⟩|⟨g,cur,hA,_,hB,_⟩
 ·rw [hA] at hx;simp [F7] at hx
 ·rw [hA] at hx;simp [F7] at hx;exact hb.neBlk hB hx
theorem Own.apart {w:World} {lo lo':Nat} {el el':TypeId} {sz n c sz' n' c':Nat} {A A':Option Addr} {cs cs':List Value} (h:Own w lo el sz A n c cs) (h':Own w lo' el' sz' A' n' c' cs') (hne:el≠el'):∀ x∈F7 A,x∉F7 A':=by
 intro x hx hx'
 rcases h.form with ⟨hA,_⟩|⟨g,cur,hA,_,hB,_⟩
 ·rw [hA] at hx;simp [F7] at hx
 ·rcases h'.form with ⟨hA',_⟩|⟨g',cur',hA',_,hB',_⟩
  ·rw [hA'] at hx';simp [F7] at hx'
  ·rw [hA] at hx;rw [hA'] at hx';simp [F7] at hx hx';exact hB.ne hB' hne (hx.symm.trans hx')
theorem Own.keep {w w':World} {lo:Nat} {el:TypeId} {sz n c:Nat} {A:Option Addr} {cs:List Value} {S:List Nat} (h:Own w lo el sz A n c cs) (k:Chg S w w') (hS:∀ x∈F7 A,x∉S):Own w' lo el sz A n c cs:=
 h.q k (fun b hb=>by
  right
  intro hA;rw [hA] at hS
  exact hS b (by simp [F7]) hb)
theorem Own.offBlk {w:World} {lo:Nat} {el:TypeId} {sz n c:Nat} {A:Option Addr} {cs:List Value} (h:Own w lo el sz A n c cs) {b:Nat} {cs':List Value} {τ:TypeId} (hb:Blk w b cs' τ) (hne:el≠τ):∀ x∈F7 A,x∉[b]:=by
 intro x hx hm;rw [Ek3] at hm;subst hm
 rcases h.form with ⟨hA,_⟩|⟨g,cur,hA,_,hB,_⟩
 ·rw [hA] at hx;simp [F7] at hx
 ·rw [hA] at hx;simp [F7] at hx;exact hB.ne hb hne hx.symm
theorem Own.offMp {w:World} {lo:Nat} {el:TypeId} {sz n c:Nat} {A:Option Addr} {cs:List Value} (h:Own w lo el sz A n c cs) {b:Nat} (hb:∃ es clock,w.heap[b]?=some (.map es clock)):∀ x∈F7 A,x∉[b]:=by
 intro x hx hm;rw [Ek3] at hm;subst hm
 rcases h.form with ⟨hA,_⟩|⟨g,cur,hA,_,hB,_⟩
 ·rw [hA] at hx;simp [F7] at hx
 ·rw [hA] at hx;simp [F7] at hx;subst hx;obtain ⟨es,clock,hb⟩:=hb;rw [show w.heap[x]?=_ from hB] at hb
  cases hb
theorem Mp.is {α:Type} {enc:α→Value} {w:World} {b:Nat} {L:List (α × Int)} (h:Mp enc w b L):∃ es clock,w.heap[b]?=some (.map es clock):=by obtain ⟨es,clock,h,_⟩:=h;exact ⟨es,clock,h⟩
theorem WBlk.q {S:List Nat} {w w':World} {p:Nat} {q:Wst} {kv:List Value} {A:Option Addr} {c:Nat} {A2:Option Addr} {c2:Nat} {bs:List Nat} (h:WBlk w p q kv A c A2 c2 bs) (k:Chg S w w') (hS:∀ x∈wT p A A2 bs,x∉S):WBlk w' p q kv A c A2 c2 bs:=
 ⟨h.blk.q k (hS p (K7.2 (.inl J))),h.kl,h.os.keep k (fun x hx=>hS x (K7.2 (.inr (.inl hx)))),h.of_.keep k (fun x hx=>hS x (K7.2 (.inr (.inr (.inl hx))))),h.gb.q k (fun x hx=>hS x (K7.2 (.inr (.inr (.inr hx))))),h.gl,h.nd,h.lo⟩
theorem IsW.q {S:List Nat} {w w':World} {p:Nat} {q:Wst} {kv:List Value} {T:List Nat} (h:IsW w p q kv T) (k:Chg S w w') (hS:∀ x∈T,x∉S):IsW w' p q kv T:=by
 obtain ⟨A,c,A2,c2,bs,h,rfl⟩:=h;exact ⟨A,c,A2,c2,bs,h.q k hS,rfl⟩
theorem IsW.u {w w':World} {p:Nat} {q:Wst} {kv:List Value} {T:List Nat} (h:IsW w p q kv T) (k:Chg [] w w'):IsW w' p q kv T:=h.q k (by simp)
theorem WBlk.mem {w:World} {p:Nat} {q:Wst} {kv:List Value} {A:Option Addr} {c:Nat} {A2:Option Addr} {c2:Nat} {bs:List Nat} (h:WBlk w p q kv A c A2 c2 bs):∀ x∈wT p A A2 bs,p≤x∧x<w.heap.size:=fun x hx=>by
 rcases K7.1 hx with rfl|hx|hx|hx
 ·exact ⟨El1 _,h.blk.lt⟩
 ·have:=h.os.blk x hx;omega
 ·have:=h.of_.blk x hx;omega
 ·exact ⟨Nat.le_of_lt (h.lo x hx),h.gb.lt x hx⟩
theorem IsW.mem {w:World} {p:Nat} {q:Wst} {kv:List Value} {T:List Nat} (h:IsW w p q kv T):∀ x∈T,p≤x∧x<w.heap.size:=by
 obtain ⟨A,c,A2,c2,bs,h,rfl⟩:=h;exact h.mem
def IsKn (w:World) (lo hi:Nat) (T:List Nat) (k:Kn) (v:Value) (n:Nat):Prop:=∃ b1 b2,v= .agg #[.int .i64 k.void,.map (some b1),.map (some b2)]∧Bag w b1 k.first n∧Bag w b2 k.last n∧(lo≤b1∧b1<hi)∧(lo≤b2∧b2<hi)∧b1∉T∧b2∉T∧0≤k.void∧k.void≤9223372036854775807
def WalkR (w:World) (p:Nat) (kv:List Value) (T:List Nat) (r:Kn × Wst) (v:Value) (w':World):Prop:=
 Chg T w w'∧∃ T',IsW w' p r.2 kv T'∧(∀ x∈T',x∈T∨w.heap.size≤x)∧IsKn w' w.heap.size w'.heap.size T' r.1 v r.2.S.length
theorem three {kv:List Value} (h:kv.length=3):∃ x y z,kv=[x,y,z]:=by
 match kv,h with
 |[x,y,z],_=>exact ⟨x,y,z,rfl⟩
theorem place_c (p:Nat) (q:Wst) (kv:List Value) (T:List Nat) (s:Nat) (w:World) (hW:IsW w p q kv T) (hn:q.S.length≤1000000):
  Calls P 132 #[.pointer (some ⟨p,0,none⟩),.agg (C4 s).toArray] w (Ret (WalkR w p kv T (Bt2 q s))):=by
 obtain ⟨A,c,A2,c2,bs,hK,rfl⟩:=hW;have hT:=hK.mem;obtain ⟨hB0,hkl,hO,hO2,hG,hgl,hnd,hlo⟩:=hK;obtain ⟨k1,k2,k3,rfl⟩:=three hkl;have hC:=A8 (wT p A A2 bs) w;have hOb:=hO.blk;have hQb:=hO2.blk;have hbL:∀ x∈bs,p<x∧x<w.heap.size:=fun x hx=>⟨hlo x hx,hG.lt x hx⟩
 have hGA:∀ x∈bs,x∉F7 A:=fun x hx=>by obtain ⟨f,hf⟩:=hG.bag hx;exact hO.notBag hf
 have hGA2:∀ x∈bs,x∉F7 A2:=fun x hx=>by obtain ⟨f,hf⟩:=hG.bag hx;exact hO2.notBag hf
 have hQA:=hO2.apart hO (by decide);have hpw:=hB0.lt
 try have hlB0:=hB0.lt
 refine D4 Tryz.func132 J J (Qd (B5 J (E1 J J) ?_));intro b1 w1 hb1 hs1 hx1 hB1;refine B5 J (B8 Ar3 J) ?_;intro b2 w2 hb2 hs2 hx2 hB2;have hB0:=hB0.u (hx1.s0 hx2);refine Qc (Qd (Z 2 J (Fa Bm4 J (Lb o23 J ‹_› (by rfl) ?_))));refine Ln Tryz.underlying23 J (Zc 1 J (Qa (C8 (S:=F7 A) 8 [(0,0),(0,1),(0,2),(0,3),(0,4),(0,5),(1,6),(1,7),(2,8),(2,9),(2,10)] mo (by kernel_rfl) ?_)));intro w3 hx3 hh3;have hB0:=hB0.u hx3;have hB1:=hB1.u (hx2.s0 hx3);have hCS3:=A8 (F7 A) w3;refine Z 3 J (Fa Bm4 J (D6 J (B3 o23 J ‹_› (by intro h;have:=hOb _ h;omega) (by rfl)) ?_));refine D6 J (C1 J0 J ‹_› (by intro h;have:=hOb _ h;omega) J J) ?_;refine E2 J (B7 Ar5 Tryz.underlying23 N0 J J J (by rfl)) ?_;intro b4 w4 hb4 hs4 hx4 hB4;have hC:=hC.s0 (((hx1.s0 hx2).s0 hx3).s0 hx4);have hB0:=hB0.u hx4;have hO:=hO.u (((hx1.s0 hx2).s0 hx3).s0 hx4);have hO2:=hO2.u (((hx1.s0 hx2).s0 hx3).s0 hx4);have hG:=hG.u (((hx1.s0 hx2).s0 hx3).s0 hx4);have hB2:=hB2.u (hx3.s0 hx4);have hCS3:=hCS3.s0 hx4;refine ⟨hCS3,?_⟩;refine Ab7 J el23 J J hO (Blk.rd (F:=fun _=>True) ‹_› J trivial) (by rfl) (by omega) (by omega) ?_;intro A' c' w5 hO5 hx5 hA';have hz5:=hx5.size;have hC:=hC.step hx5 (by intro x h;left;first|assumption|exact K7.2 (.inl (Ek3.1 h))|exact K7.2 (.inr (.inl h))|exact K7.2 (.inr (.inr (.inl h)))|exact K7.2 (.inr (.inr (.inr h))));have hB0:=hB0.q hx5 (by intro h;have:=hOb _ h;omega);have hO2:=(by exact hO2.keep hx5 ‹_›);have hG:=hG.q hx5 ‹_›;have hB2:=hB2.q hx5 (by intro h;have:=hOb _ h;omega);have hCS3:=hCS3.step hx5 (by exact fun x h=>.inl h)
 replace hO:=hO5
 refine ⟨hCS3,?_⟩;have hAQ:=hO.apart hO2 (by decide);have hAb:=hO.blk;refine Z 1 J (Fa Bm4 J (Pe sz23 J ‹_› J J ?_));intro w6 hs6 hx6 hB0;have hC:=hC.step hx6 (by intro x h;left;first|assumption|exact K7.2 (.inl (Ek3.1 h))|exact K7.2 (.inr (.inl h))|exact K7.2 (.inr (.inr (.inl h)))|exact K7.2 (.inr (.inr (.inr h))));have hO:=(by exact hO.q hx6 (by intro x hx;simp at hx;left;omega));have hO2:=(by exact hO2.q hx6 (by intro x hx;simp at hx;left;omega));have hG:=hG.q hx6 (by intro x hx;have h1:=hbL x hx;simp;omega);refine Qc (Qd (Z 3 J (Fa Cd6 J (Lb o159 J ‹_› (by rfl) ?_))));refine Ae6 ik J ?_;intro b7 w7 hb7 hs7 hx7 hM7;refine B5 J (B7 sl159 Tryz.underlying159 zr156 J J J (by rfl)) ?_;intro b8 w8 hb8 hs8 hx8 hB8;have hC:=hC.s0 (hx7.s0 hx8);have hB0:=hB0.u (hx7.s0 hx8);have hO:=hO.u (hx7.s0 hx8);have hO2:=hO2.u (hx7.s0 hx8);have hG:=hG.u (hx7.s0 hx8);have hB2:=hB2.q ((hx6.j hx7).j hx8) (by simp<;>omega);have hM7:=hM7.u hx8;refine G1 J el159 J J hO2 (Blk.rd (F:=fun _=>True) ‹_› J trivial) (by rfl) (by omega) (by omega) ?_;intro A2' c2' w9 hO9 hx9 hA2';have hz9:=hx9.size;have hC:=hC.step hx9 (by intro x h;left;first|assumption|exact K7.2 (.inl (Ek3.1 h))|exact K7.2 (.inr (.inl h))|exact K7.2 (.inr (.inr (.inl h)))|exact K7.2 (.inr (.inr (.inr h))));have hB0:=hB0.q hx9 (by intro h;have:=hQb _ h;omega);have hO:=(by exact hO.keep hx9 ‹_›);have hG:=hG.q hx9 ‹_›;have hB2:=hB2.q hx9 (by intro h;have:=hQb _ h;omega);have hM7:=hM7.q hx9 (by intro h;have:=hQb _ h;omega)
 replace hO2:=hO9
 refine Z 1 J (Fa Cd6 J (Pe sz159 J ‹_› J J ?_));intro w10 hs10 hx10 hB0;have hC:=hC.step hx10 (by intro x h;left;first|assumption|exact K7.2 (.inl (Ek3.1 h))|exact K7.2 (.inr (.inl h))|exact K7.2 (.inr (.inr (.inl h)))|exact K7.2 (.inr (.inr (.inr h))));have hO:=(by exact hO.q hx10 (by intro x hx;simp at hx;left;omega));have hO2:=(by exact hO2.q hx10 (by intro x hx;simp at hx;left;omega));have hG:=hG.q hx10 (by intro x hx;have h1:=hbL x hx;simp;omega);refine Qc (Qd (Ae6 ik J ?_));intro b11 w11 hb11 hs11 hx11 hM11;have hO:=hO.u hx11;have hO2:=hO2.u hx11;have hG:=hG.u hx11;have ho1:=hO.offMp hM11.is;have ho2:=hO2.offMp hM11.is;refine Z 1 J (Bp6 (Or.inr J) (Df1 Tryz.underlying3) Cu7 J J J hM11 ?_);intro w12 hs12 hx12 hM12;have hO:=(by exact hO.keep hx12 ‹_›);have hO2:=(by exact hO2.keep hx12 ‹_›);have hG:=hG.q hx12 (by intro x hx;have h1:=hbL x hx;simp;omega)
 replace hM11:=hM12
 refine Z 1 J (Ae6 ik J ?_);intro b13 w13 hb13 hs13 hx13 hM13;have hO:=hO.u hx13;have hO2:=hO2.u hx13;have hG:=hG.u hx13;have ho3:=hO.offMp hM13.is;have ho4:=hO2.offMp hM13.is;refine Z 1 J (Bp6 (Or.inr J) (Df1 Tryz.underlying3) Cu7 J J J hM13 ?_);intro w14 hs14 hx14 hM14;have hO:=(by exact hO.keep hx14 ‹_›);have hO2:=(by exact hO2.keep hx14 ‹_›);have hG:=hG.q hx14 (by intro x hx;have h1:=hbL x hx;simp;omega);have hB2:=hB2.q ((((hx10.j hx11).j hx12).j hx13).j hx14) (by simp<;>omega)
 replace hM13:=hM14
 refine Z 1 J ?_;have ho5:=hO.offBlk hB2 (by decide);have ho6:=hO2.offBlk hB2 (by decide);refine C9 J (B1 Ar3 Dx1 J (by rfl)) ?_;refine Pe Bf3 J ‹_› J J ?_;intro w15 hs15 hx15 hB2;have hC:=hC.step ((((hx11.j hx12).j hx13).j hx14).j hx15) (by simp<;>omega);have hB0:=hB0.q ((((hx11.j hx12).j hx13).j hx14).j hx15) (by simp<;>omega);have hO:=(by exact hO.keep hx15 ‹_›);have hO2:=(by exact hO2.keep hx15 ‹_›);have hG:=hG.q hx15 (by intro x hx;have h1:=hbL x hx;simp;omega);have hM7:=hM7.q (((((hx10.j hx11).j hx12).j hx13).j hx14).j hx15) (by simp<;>omega);have hM11:=hM11.q ((hx13.j hx14).j hx15) (by simp<;>omega);have hM13:=hM13.q hx15 (by simp;omega);refine Qc (A6 (D5 J J (A5 Cq5 ‹_› J J) ?_));have hZ:Bag w15 b7 Q6 (q.S.length+1):=⟨[],hM7,Az8 _⟩
 have h1:BagL (Ba4 [] ((q.S.length:Nat):Int) 1) (one1 q.S.length) (q.S.length+1):=by
  have:=Di2 (Az8 (q.S.length+1)) q.S.length (by omega) 1 (by omega);exact this
 have hl1:(Bt2 q s).2.S.length=q.S.length+1:=by simp [Bt2]
 have hA2b:=hO2.blk
 refine ⟨hC,wT p A' A2' (bs++[b7]),⟨A',c',A2',c2',bs++[b7],⟨?_,hkl,?_,?_,?_,?_,?_,?_⟩,rfl⟩,?_,b11,b13,rfl,?_,?_,⟨by omega,hM11.lt⟩,⟨by omega,hM13.lt⟩,?_,?_,by simp [Bt2],by simp [Bt2]⟩
 ·rw [hl1];exact hB0
 ·rw [hl1];show Own _ _ _ _ _ _ _ (F5 (q.S++[s]));rw [U6];exact hO
 ·rw [hl1];unfold Ea0;rw [Eo8];exact hO2
 ·rw [hl1];exact (hG.grow (by omega)).snoc hZ
 ·rw [hl1];show (q.G++[Q6]).length=_;simp [hgl]
 ·rw [List.nodup_append];exact ⟨hnd,by simp,fun x hx y hy=>by have:=hbL x hx;simp at hy;omega⟩
 ·intro x hx
  rcases En7.1 hx with hx|hx
  ·exact hlo x hx
  ·simp at hx;omega
 ·intro x hx
  rcases K7.1 hx with rfl|hx|hx|hx
  ·exact .inl (K7.2 (.inl J))
  ·rcases hA' with h|⟨b,h,hb⟩
   ·rw [h] at hx;exact .inl (K7.2 (.inr (.inl hx)))
   ·rw [h] at hx;simp [F7] at hx;right;omega
  ·rcases hA2' with h|⟨b,h,hb⟩
   ·rw [h] at hx;exact .inl (K7.2 (.inr (.inr (.inl hx))))
   ·rw [h] at hx;simp [F7] at hx;right;omega
  ·rcases En7.1 hx with hx|hx
   ·exact .inl (K7.2 (.inr (.inr (.inr hx))))
   ·simp at hx;right;omega
 ·rw [hl1];exact ⟨_,hM11,h1⟩
 ·rw [hl1];exact ⟨_,hM13,h1⟩
 ·intro hx
  rcases K7.1 hx with hx|hx|hx|hx
  ·omega
  ·exact ho1 _ hx (by simp)
  ·exact ho2 _ hx (by simp)
  ·rcases En7.1 hx with hx|hx
   ·have:=hbL _ hx;omega
   ·simp at hx;omega
 ·intro hx
  rcases K7.1 hx with hx|hx|hx|hx
  ·omega
  ·exact ho3 _ hx (by simp)
  ·exact ho4 _ hx (by simp)
  ·rcases En7.1 hx with hx|hx
   ·have:=hbL _ hx;omega
   ·simp at hx;omega
def Dm9 (G:List BagF) (f g:BagF) (R:List (Int × Int)):List BagF:=G.mapIdx fun i h=>if (S9 R (i:Int)).isSome then h else Bf9 h g (f i)
theorem Ca9 (G:List BagF) (f g:BagF) (R:List (Int × Int)):(Dm9 G f g R).length=G.length:=by simp [Dm9]
theorem midG_end (G:List BagF) (f g:BagF):Dm9 G f g []=Ay2 G f g:=by simp [Dm9,Ay2,Ai6]
theorem Ei5 (h g:BagF) (hr:∀ i,0≤h i∧h i≤9223372036854775807):Bf9 h g 0=h:=by
 funext i;unfold Bf9;rw [Ci3,Bi4 _ (hr i)]
theorem Dm8 {G:List BagF} {f g:BagF} {L:List (Int × Int)} {n:Nat} (hf:BagL L f n) (hr:∀ h∈G,∀ i,0≤h i∧h i≤9223372036854775807):Dm9 G f g L=G:=by
 apply Em4;intro i;unfold Dm9;rw [Ep2]
 cases hi:G[i]? with
 |none=>rfl
 |some h=>
  simp only [En4]
  congr 1
  split
  ·rfl
  ·rename_i hm
   have:f i=0:=by
    rw [hf.2.2]
    cases hx:S9 L (i:Int) with
    |none=>rfl
    |some v=>rw [hx] at hm;simp at hm
   rw [this];exact Ei5 h g (hr h (List.mem_of_getElem? hi))
theorem Dz6 {G:List BagF} {f g:BagF} {L R1 R2:List (Int × Int)} {k:Nat} {v:Int} {n:Nat} (hf:BagL L f n) (hs:(R1++((k:Int),v)::R2).Sublist L) (hk:k<G.length):
  Dm9 G f g (R1++R2)=(Dm9 G f g (R1++((k:Int),v)::R2)).set k (Bf9 ((Dm9 G f g (R1++((k:Int),v)::R2)).getD k Q6) g v):=by
 obtain ⟨h1,h2,h3,h4,h5⟩:=Af9 hf.1 hs;have hkl:k<(Dm9 G f g (R1++((k:Int),v)::R2)).length:=by rw [Ca9];exact hk
 apply Em4;intro i
 by_cases hi:i=k
 ·subst hi;rw [En1,Ek1 J,Ek1 hkl];unfold Dm9;rw [Ep2,Ek4 hk];simp only [En4];simp only at h2 h4 h5;rw [h2,Ek2,Ep2,Ek4 hk];simp only [En4,Eo1,h4,Option.isSome_some,if_true];rw [hf.2.2 i,h5]
  rfl
 ·rw [En1,Ek0 (Ne.symm hi)];unfold Dm9;rw [Ep2,Ep2,h3 (i:Int) (by simp only;omega)]
theorem GB.ranges {w:World} {bs:List Nat} {G:List BagF} {n:Nat} (h:GB w bs G n):∀ g∈G,∀ i,0≤g i∧g i≤9223372036854775807:=fun g hg i=>by
 obtain ⟨j,hj,rfl⟩:=Er2.1 hg;have:=(h.2 j (by rw [h.1];exact hj)).range i;rw [Ek2 (l:=G),Ek4 hj] at this;exact this
theorem IsKn.q {w w':World} {lo hi n:Nat} {T S:List Nat} {k:Kn} {v:Value} (h:IsKn w lo hi T k v n) (hc:Chg S w w') (hS:∀ b,lo≤b→b<hi→b∉T→b∉S):IsKn w' lo hi T k v n:=by
 obtain ⟨b1,b2,h1,h2,h3,h4,h5,h6,h7,h8⟩:=h;exact ⟨b1,b2,h1,h2.q hc (hS _ h4.1 h4.2 h6),h3.q hc (hS _ h5.1 h5.2 h7),h4,h5,h6,h7,h8⟩
theorem IsKn.u {w w':World} {lo hi n:Nat} {T:List Nat} {k:Kn} {v:Value} (h:IsKn w lo hi T k v n) (hc:Chg [] w w'):IsKn w' lo hi T k v n:=h.q hc (by simp)
theorem IsKn.val {w:World} {lo hi n:Nat} {T:List Nat} {k:Kn} {v:Value} (h:IsKn w lo hi T k v n):∃ f l,v= .agg #[.int .i64 k.void,.map (some f),.map (some l)]:=by
 obtain ⟨b1,b2,h1,_⟩:=h;exact ⟨b1,b2,h1⟩
theorem IsKn.bags {w:World} {lo hi n:Nat} {T:List Nat} {k:Kn} {x:Int} {f l:Nat} (h:IsKn w lo hi T k (.agg #[.int .i64 x,.map (some f),.map (some l)]) n):Bag w f k.first n∧Bag w l k.last n∧(lo≤f∧f<hi)∧(lo≤l∧l<hi)∧f∉T∧l∉T∧0≤k.void∧k.void≤9223372036854775807:=by
 obtain ⟨b1,b2,h1,h2,h3,h4⟩:=h;injection h1 with h1
 injection h1 with h1
 simp at h1;obtain ⟨_,rfl,rfl⟩:=h1;exact ⟨h2,h3,h4⟩
theorem IsW.lt {w:World} {p:Nat} {q:Wst} {kv:List Value} {T:List Nat} (h:IsW w p q kv T):p<w.heap.size:=by
 obtain ⟨A,c,A2,c2,bs,h,rfl⟩:=h;exact h.blk.lt
theorem As8:∀ (t:Cor) (q:Wst),(M0 t q).2.S=q.S++L6 t
 | .empty,q=>by simp [M0,L6]
 | .set s,q=>rfl
 | .cat a b,q=>by simp only [M0,L6];rw [As8 b,As8 a,List.append_assoc]
 | .alt a b,q=>by simp only [M0,L6];rw [As8 b,As8 a,List.append_assoc]
 | .star lz a,q=>by simp only [M0,L6];rw [As8 a]
theorem Al6 (t:Cor) (q:Wst):(M0 t q).2.S.length=q.S.length+(L6 t).length:=by rw [As8,Ek5]
theorem IsKn.walk {w w':World} {lo hi n:Nat} {T T':List Nat} {k:Kn} {v:Value} {q:Wst} (h:IsKn w lo hi T k v n) (hc:Chg T w w') (hT:∀ x∈T',x∈T∨w.heap.size≤x) (hn:n≤q.S.length):IsKn w' lo hi T' k v q.S.length:=by
 obtain ⟨b1,b2,h1,h2,h3,h4,h5,h6,h7,h8⟩:=h;exact ⟨b1,b2,h1,(h2.q hc h6).grow hn,(h3.q hc h7).grow hn,h4,h5,fun hm=>by have:=h2.lt;rcases hT _ hm with h|h;exact h6 h;omega,fun hm=>by have:=h3.lt;rcases hT _ hm with h|h;exact h7 h;omega,h8⟩
theorem IsKn.wide {w:World} {lo lo' hi hi' n:Nat} {T:List Nat} {k:Kn} {v:Value} (h:IsKn w lo hi T k v n) (hl:lo'≤lo) (hh:hi≤hi'):IsKn w lo' hi' T k v n:=by
 obtain ⟨b1,b2,h1,h2,h3,h4,h5,r⟩:=h;exact ⟨b1,b2,h1,h2,h3,by omega,by omega,r⟩
theorem IsKn.lts {w:World} {lo hi n:Nat} {T:List Nat} {k:Kn} {v:Value} (h:IsKn w lo hi T k v n):IsKn w lo w.heap.size T k v n:=by
 obtain ⟨b1,b2,h1,h2,h3,h4,h5,r⟩:=h;exact ⟨b1,b2,h1,h2,h3,⟨h4.1,h2.lt⟩,⟨h5.1,h3.lt⟩,r⟩
theorem Bag.is {w:World} {b n:Nat} {f:BagF} (h:Bag w b f n):∃ es clock,w.heap[b]?=some (.map es clock):=by obtain ⟨L,h,_⟩:=h;exact h.is
theorem WBlk.u {w w':World} {p:Nat} {q:Wst} {kv:List Value} {A:Option Addr} {c:Nat} {A2:Option Addr} {c2:Nat} {bs:List Nat} (h:WBlk w p q kv A c A2 c2 bs) (k:Chg [] w w'):WBlk w' p q kv A c A2 c2 bs:=h.q k (by simp)
theorem link_c (p:Nat) (q:Wst) (kv:List Value) (T:List Nat) (x1 x2:Nat) (f g:BagF) (w:World) (hW:IsW w p q kv T) (h1:Bag w x1 f q.S.length) (h2:Bag w x2 g q.S.length) (n1:x1∉T) (n2:x2∉T):
  Calls P 135 #[.pointer (some ⟨p,0,none⟩),.map (some x1),.map (some x2)] w (Ret fun v w'=>Chg T w w'∧IsW w' p ⟨q.S,Ay2 q.G f g⟩ kv T):=by
 obtain ⟨A,c,A2,c2,bs,hK,rfl⟩:=hW;have hbL:=hK.mem;have hC:=A8 (wT p A A2 bs) w;obtain ⟨L,hM,hL⟩:=h1;have hY:=h2;have hyl:=h2.lt;refine D4 Tryz.func135 J J (Qd (Z 1 J (Bp7 (k:=3) (el:=3) J Cu7 J hM ?_)));intro b1 w1 hb1 hs1 hx1 hI1;have hC:=hC.s0 hx1;have hK:=hK.u hx1;have hY:=hY.u hx1
 refine Qc (B2 (D8 (σ:=List (Int × Int)) (fun R=>[(0,.pointer (some ⟨p,0,none⟩)),(2,.map (some x2)),(9,.pointer (some ⟨b1,0,none⟩))]) (fun R wr=>Chg (wT p A A2 bs) w wr∧It ik wr b1 x1 L R∧WBlk wr p ⟨q.S,Dm9 q.G f g R⟩ kv A c A2 c2 bs∧Bag wr x2 g q.S.length∧R.Sublist L) (fun R wr=>R.length) L (sb J) ?_ ?_))
 ·refine ⟨hC,hI1,?_,hY,List.Sublist.refl _⟩;rw [Dm8 hL hK.gb.ranges];exact hK
 rintro R w9 ⟨hC,hI,hK,hY,hs⟩
 refine Qd (Cg0 J J hI (fun hE=>?_) ?_)
 ·refine Zc 1 J (Qa (E4 J (Xb (T5 J ?_))));rw [hE,midG_end] at hK;exact ⟨hC,A,c,A2,c2,bs,hK,rfl⟩
 ·rintro L1 ⟨xk,xv⟩ L2 w2 hML hx2 hs2 hI2 hA2;have hC:=hC.step hx2 (by simp;omega);have hK:=hK.q hx2 (by intro x hx;have h1:=hbL x hx;simp;omega);have hY:=hY.q hx2 (by simp;omega)
  replace hI:=hI2
  subst hML;obtain ⟨hp0,hp1,hv0,hv1⟩:=hL.2.1 (xk,xv) (hs.subset (by simp));obtain ⟨k,rfl⟩:=Ep8 hp0;simp only at hp0 hp1 hv0 hv1;obtain ⟨hB0,hkl,hO,hO2,hG,hgl,hnd,hlo⟩:=hK;obtain ⟨k1,k2,k3,rfl⟩:=three hkl;have hkb:k<bs.length:=by rw [hG.1,hgl];show k<q.S.length;omega
  have hkS:k<q.S.length:=by omega
  have hBk:=hG.2 k hkb;have hBk0:=hBk;have hmk:=G9 bs 0 k hkb;generalize hbk:bs.getD k 0=bk at*;have hb1:=hbL bk (K7.2 (.inr (.inr (.inr hmk))));have hpk:=hlo bk hmk;have hx1k:x1≠bk:=fun e=>n1 (by rw [e];exact K7.2 (.inr (.inr (.inr hmk))))
  have hx2k:x2≠bk:=fun e=>n2 (by rw [e];exact K7.2 (.inr (.inr (.inr hmk))))
  have hkT:∀ b∈[bk],b∈wT p A A2 bs∨w.heap.size≤b:=fun b hb=>by rw [Ek3] at hb;subst hb;exact .inl (K7.2 (.inr (.inr (.inr hmk))))
  have ho1:=hO.offMp hBk.is;have ho2:=hO2.offMp hBk.is;have hrd:=hO2.rd (F:=fun _=>True) (fun _ _ _=>trivial);obtain ⟨g2,off2,hA2,_⟩:=hrd.at_ (by show 0<q.S.length;omega);subst hA2;have hcell:=(hrd.one (k:=k) (v:=.map (some bk)) (by rw [Cm0 bs k hkb,hbk])).2;refine Zc 1 J (Qa (E3 J (A7 (B2 (Qd (C9 J (Bd1 J ‹_›) ?_))))));refine Zc 4 J (Qb (Z 2 J (Fa Cd6 J (Lb o159 J ‹_› (by rfl) ?_))));refine Z 1 J (C9 J (B0 sl159 J J (by omega) (by omega)) (Lc Cg7 J hcell (Z 2 J (Ca fb161 J (Cf4 bk x2 q.S.length _ g xv _ hBk0 hY (by omega) (by omega)) ?_))));rintro _ w3 ⟨hx3,hN⟩;have hC:=hC.step hx3 ‹_›;have hY:=hY.q hx3 (by simp;omega);have hI:=hI.q hx3 (by simp;omega);have hB0:=hB0.q hx3 (by simp;omega);have hO:=(by exact hO.keep hx3 ‹_›);have hO2:=(by exact hO2.keep hx3 ‹_›);refine Qc ⟨L1++L2,sb J,?_,?_⟩;refine ⟨hC,hI,⟨hB0,rfl,hO,hO2,?_,by rw [← hgl];simp only [Ca9],hnd,hlo⟩,hY,(Af9 hL.1 hs).1⟩;simp only;rw [Dz6 hL hs (by rw [← Ca9 q.G f g (L1++((k:Int),xv)::L2),hgl];exact hkS)];subst hbk;exact hG.upd hnd hkb hx3 hN;simp
theorem cat_c (p:Nat) (q:Wst) (kv:List Value) (T:List Nat) (ka kb:Kn) (va vb:Value) (lo hi:Nat) (w:World) (hW:IsW w p q kv T) (ha:IsKn w lo hi T ka va q.S.length) (hb:IsKn w lo hi T kb vb q.S.length):
  Calls P 133 #[.pointer (some ⟨p,0,none⟩),va,vb] w (Ret fun v w'=>Chg T w w'∧IsW w' p ⟨q.S,Ay2 q.G ka.last kb.first⟩ kv T∧IsKn w' w.heap.size w'.heap.size T ⟨Ac2 ka.void kb.void,Bf9 ka.first kb.first ka.void,Bf9 kb.last ka.last kb.void⟩ v q.S.length):=by
 have hbL:=hW.mem;have hTb:=hbL;have hC:=A8 T w;obtain ⟨f1,l1,rfl,haf,hal,ha3,ha4,ha5,ha6,ha7,ha8⟩:=ha;obtain ⟨f2,l2,rfl,hbf,hbl,hb3,hb4,hb5,hb6,hb7,hb8⟩:=hb;refine D4 Tryz.func133 J J (Qd (B5 J (E1 J J) ?_));intro b1 w1 hb1 hs1 hx1 hB1;refine B5 J (E1 J J) ?_;intro b2 w2 hb2 hs2 hx2 hB2;refine B5 J (B8 Ar3 J) ?_;intro b3 w3 hb3 hs3 hx3 hB3;have hC:=hC.s0 ((hx1.s0 hx2).s0 hx3);have hW:=hW.u ((hx1.s0 hx2).s0 hx3);have haf:=haf.u ((hx1.s0 hx2).s0 hx3);have hal:=hal.u ((hx1.s0 hx2).s0 hx3);have hbf:=hbf.u ((hx1.s0 hx2).s0 hx3);have hbl:=hbl.u ((hx1.s0 hx2).s0 hx3);have hB1:=hB1.u (hx2.s0 hx3);have hB2:=hB2.u hx3;refine Qc (Qd (Z 1 J (Fa Ao7 J (Lb Cg7 J ‹_› (by rfl) ?_))));refine Fa Ao8 J (Lb Cg7 J ‹_› (by rfl) ?_);refine Ca fb135 J (link_c p q kv T l1 f2 ka.last kb.first _ hW hal hbf ha6 hb5) ?_;rintro _ w4 ⟨hx4,hW'⟩;have hz4:=hx4.size;have hC:=hC.step hx4 (by exact fun x h=>.inl h);have haf:=haf.q hx4 ‹_›;have hal:=hal.q hx4 ‹_›;have hbf:=hbf.q hx4 ‹_›;have hbl:=hbl.q hx4 ‹_›;have hB1:=hB1.q hx4 (by intro h;have:=hTb _ h;omega);have hB2:=hB2.q hx4 (by intro h;have:=hTb _ h;omega);have hB3:=hB3.q hx4 (by intro h;have:=hTb _ h;omega);clear hW;have hW:=hW';clear hW';refine Qc (Qa (C8 (S:=[]) 19 [(0,0),(0,1),(0,2),(0,3),(0,6),(0,7),(0,8),(0,9),(0,10),(0,11),(0,13),(0,14),(0,15),(0,16),(0,17),(0,18),(1,4),(1,5),(1,12),(2,19),(2,20),(2,21)] mo (by kernel_rfl) ?_));intro w5 hx5 hh5;have hB1:=hB1.u hx5;have hB2:=hB2.u hx5;have hCS5:=A8 ([]) w5;refine Fa Au6 J (D6 J (B3 o3 J ‹_› (by simp;done) (by rfl)) ?_);refine Fa Au6 J (D6 J (B3 o3 J ‹_› (by simp;done) (by rfl)) ?_);refine Fa Ao8 J (D6 J (B3 Cg7 J ‹_› (by simp;done) (by rfl)) ?_);refine Fa Ao8 J (D6 J (B3 Cg7 J ‹_› (by simp;done) (by rfl)) ?_);refine Fa Au6 J (D6 J (B3 o3 J ‹_› (by simp;done) (by rfl)) ?_);refine Fa Ao7 J (D6 J (B3 Cg7 J ‹_› (by simp;done) (by rfl)) ?_);refine Fa Ao7 J (D6 J (B3 Cg7 J ‹_› (by simp;done) (by rfl)) ?_);refine Fa Au6 J (D6 J (B3 o3 J ‹_› (by simp;done) (by rfl)) ?_);refine E2 J (B7 T8 Tryz.underlying24 zr3 J J J (by rfl)) ?_;intro b6 w6 hb6 hs6 hx6 hB6;have hz6:=hx6.size;have haf:=haf.u (hx5.s0 hx6);have hbf:=hbf.u (hx5.s0 hx6);have hB1:=hB1.u hx6;have hB2:=hB2.u hx6;have hCS5:=hCS5.s0 hx6;refine ⟨hCS5,?_⟩;refine C5 J (C3 fb84 J) (De1 [ka.void,kb.void] _ _ _ _ _ ‹_› J (by intro x hx;simp at hx;omega) (by simp)) ?_;rintro _ _ ⟨rfl,rfl⟩;refine ⟨hCS5,?_⟩;refine C5 J (C3 fb134 J) (Bh2 f1 f2 q.S.length ka.first kb.first ka.void _ haf hbf ⟨ha7,ha8⟩) ?_;rintro _ w8 ⟨hx8,o1,rfl,ho1,hS1'⟩;have hz8:=hx8.size;have hal:=hal.u ((hx5.s0 hx6).s0 hx8);have hbl:=hbl.u ((hx5.s0 hx6).s0 hx8);have hCS5:=hCS5.s0 hx8;have hS1:=hS1';clear hS1';refine ⟨hCS5,?_⟩;refine Ca fb134 J (Bh2 l2 l1 q.S.length kb.last ka.last kb.void _ hbl hal ⟨hb7,hb8⟩) ?_;rintro _ w9 ⟨hx9,o2,rfl,ho2,hS2'⟩;have hW:=hW.u (((hx5.s0 hx6).s0 hx8).s0 hx9);have hB3:=hB3.u (((hx5.s0 hx6).s0 hx8).s0 hx9);have hS2:=hS2';clear hS2';have hoT1:o1∉T:=fun h=>by have:=hbL _ h;omega
 have hoT2:o2∉T:=fun h=>by have:=hbL _ h;omega
 refine C9 J (B1 Ar3 Dx1 J (by rfl)) ?_;refine Pe Bf3 J ‹_› J J ?_;intro w10 hs10 hx10 hB3;have hC:=hC.step ((((hx5.j hx6).j hx8).j hx9).j hx10) (by simp<;>omega);have hW:=hW.q hx10 (by intro x hx;have h1:=hbL x hx;simp;omega);have hS1:=hS1.q (hx9.j hx10) (by simp<;>omega);have hS2:=hS2.q hx10 (by simp;omega);refine Qc (A6 (D5 J J (A5 Cq5 ‹_› J J) ?_));refine ⟨hC,hW,o1,o2,?_,hS1,hS2,⟨by omega,hS1.lt⟩,⟨by omega,hS2.lt⟩,hoT1,hoT2,(V3 _ _).1,(V3 _ _).2⟩;rw [Aw1 _ _ ha7 ha8]
 rfl
def Bp1 (t:Cor):Prop:=∀ (p:Nat) (q:Wst) (kv:List Value) (T:List Nat) (v:Value) (F:Nat→Prop) (w:World),IsW w p q kv T→IsCor F w t v→(∀ x,F x→x<p)→q.S.length+(L6 t).length≤1000000→
 Calls P 97 #[.pointer (some ⟨p,0,none⟩),v] w (Ret (WalkR w p kv T (M0 t q)))
theorem walk_set (s:Nat):Bp1 (.set s):=by
 intro p q kv T v F w hW hT hF hl;obtain ⟨pn,rfl,hFp,hB0⟩:=hT;have hC:=A8 T w;have hTb:=hW.mem;refine D4 Tryz.func97 J J (Qd (B5 J (B8 Ar3 J) ?_));intro b1 w1 hb1 hs1 hx1 hB1;have hz1:=hx1.size;have hC:=hC.s0 hx1;have hW:=hW.u hx1;have hB0:=hB0.u hx1;refine Qc (Qa (Qd (Z 2 J (Fa Au5 J (Lb o3 J ‹_› (by rfl) ?_)))));refine Qc (B2 (Qd (Zc 2 J (E3 (rfl) (Qd (Z 3 J (Fa Ed3 J (La J0 J ‹_› (by rfl) J ?_))))))));refine Ca fb132 J (place_c p q kv T s _ hW (by omega)) ?_;rintro v9 w2 ⟨hx2,T1,hW1,hs1,hK1⟩;have hC:=hC.step hx2 (by exact fun x h=>.inl h);have hB1:=hB1.q hx2 (by intro h;have:=hTb _ h;omega);obtain ⟨f1,l1,rfl⟩:=hK1.val;have hTn:∀ x∈T1,x∉[b1]:=fun x hx h=>by simp at h;rcases hs1 x hx with h2|h2;have:=hTb x h2;omega;omega
 refine Pe Bf3 J ‹_› J J ?_;intro w3 hs3 hx3 hB1;have hz3:=hx3.size;have hC:=hC.step hx3 (by simp;omega);have hW1:=hW1.q hx3 ‹_›;have hK1:=hK1.q hx3 (by simp;omega);refine Qc (A6 (D5 J J (A5 Cq5 ‹_› J J) ?_));exact ⟨hC,T1,hW1,fun x hx=>(hs1 x hx).imp id (fun h=>by omega),hK1.wide (by omega) (by omega)⟩
theorem Dj8:Bp1 .empty:=by
 intro p q kv T v F w hW hT hF hl;obtain ⟨pn,rfl,hFp,hB0⟩:=hT;have hC:=A8 T w;have hTb:=hW.mem;have hbL:=hW.mem;refine D4 Tryz.func97 J J (Qd (B5 J (B8 Ar3 J) ?_));intro b1 w1 hb1 hs1 hx1 hB1;have hB0:=hB0.u hx1;refine Qc (Qa (Qd (Z 2 J (Fa Au5 J (Lb o3 J ‹_› (by rfl) ?_)))));refine Qc (B2 (Qd (Zc 2 J (E4 (rfl) (Qd (Zc 2 J (E4 (rfl) (Qd (Zc 2 J (E4 (rfl) (Qd (Zc 2 J (E4 (rfl) (A7 (Qd (Ae6 ik J ?_))))))))))))))));intro b2 w2 hb2 hs2 hx2 hM2;refine Ae6 ik J ?_;intro b3 w3 hb3 hs3 hx3 hM3;have hW:=hW.u ((hx1.s0 hx2).s0 hx3);have hB1:=hB1.u (hx2.s0 hx3);refine C9 J (B1 Ar3 Dx1 J (by rfl)) ?_;refine Pe Bf3 J ‹_› J J ?_;intro w4 hs4 hx4 hB1;have hC:=hC.step (((hx1.j hx2).j hx3).j hx4) (by simp<;>omega);have hW:=hW.q hx4 (by intro x hx;have h1:=hbL x hx;simp;omega);have hM2:=hM2.q (hx3.j hx4) (by simp<;>omega);have hM3:=hM3.q hx4 (by simp;omega);refine Qc (A6 (D5 J J (A5 Cq5 ‹_› J J) ?_));exact ⟨hC,T,hW,fun x hx=>.inl hx,b2,b3,rfl,⟨_,hM2,Az8 _⟩,⟨_,hM3,Az8 _⟩,⟨by omega,hM2.lt⟩,⟨by omega,hM3.lt⟩,fun h=>by have:=hTb _ h;omega,fun h=>by have:=hTb _ h;omega,by simp [M0],by simp [M0]⟩
theorem walk_cat (a b:Cor) (ca:Bp1 a) (cb:Bp1 b):Bp1 (.cat a b):=by
 intro p q kv T v F w hW hT hF hl;obtain ⟨pn,va,vb,rfl,hFp,hB0,hta,htb⟩:=hT;have hC:=A8 T w;have hTb:=hW.mem;have hpw:=hW.lt;have hnp:=hF pn hFp;have hTF:∀ x∈T,¬ F x:=fun x hx h=>by have:=hTb x hx;have:=hF x h;omega
 have hls:q.S.length+((L6 a).length+(L6 b).length)≤1000000:=by simpa [L6] using hl
 have hl1:=Al6 a q;have hl2:=Al6 b (M0 a q).2
 try have hlB0:=hB0.lt
 refine D4 Tryz.func97 J J (Qd (B5 J (B8 Ar3 J) ?_));intro b1 w1 hb1 hs1 hx1 hB1;have hz1:=hx1.size;have hC:=hC.s0 hx1;have hW:=hW.u hx1;have hB0:=hB0.u hx1;have hta:=hta.u hx1;have htb:=htb.u hx1;refine Qc (Qa (Qd (Z 2 J (Fa Au5 J (Lb o3 J ‹_› (by rfl) ?_)))));refine Qc (B2 (Qd (Zc 2 J (E4 (rfl) (Qd (Zc 2 J (E3 (rfl) (Qd (Z 3 J (Fa Cd2 J (Lb o67 J ‹_› (by rfl) ?_)))))))))));refine Ca fb97 J (ca p q kv T va F _ hW hta hF (by omega)) ?_;rintro v9 w2 ⟨hx2,T1,hW1,hs1,hK1⟩;have hz2:=hx2.size;have hC:=hC.step hx2 (by exact fun x h=>.inl h);have hB0:=hB0.q hx2 (by intro h;have:=hTb _ h;omega);have htb:=htb.q hx2 ‹_›;have hB1:=hB1.q hx2 (by intro h;have:=hTb _ h;omega);obtain ⟨f1,l1,rfl⟩:=hK1.val;have hTn:∀ x∈T1,x∉[b1]:=fun x hx h=>by simp at h;rcases hs1 x hx with h2|h2;have:=hTb x h2;omega;omega
 have hTm:=hW1.mem;have hTF1:∀ x∈T1,¬ F x:=fun x hx h=>by have:=hTm x hx;have:=hF x h;omega
 have hb1n:b1∉T1:=fun h=>hTn _ h (by simp)
 have hpn1:pn∉T1:=fun h=>hTF1 _ h hFp
 have hbL:=hTm;refine B5 J (B8 Ar3 J) ?_;intro b3 w3 hb3 hs3 hx3 hB3;have htb:=htb.u hx3;have hW1:=hW1.u hx3;refine Pe Bf3 J ‹_› J J ?_;intro w4 hs4 hx4 hB3;have htb:=htb.q hx4 (by intro b hb hFb;have:=hF _ hFb;simp at hb;omega);have hW1:=hW1.q hx4 (by intro x hx;have h1:=hbL x hx;simp;omega);refine Qc (Qa (C8 (S:=T1) 8 [(0,0),(0,1),(0,2),(0,3),(0,4),(0,5),(0,6),(1,7),(2,8),(2,9)] mo (by kernel_rfl) ?_));intro w5 hx5 hh5;have hC:=hC.step ((hx3.j hx4).j hx5) (by simp<;>omega);have hB0:=hB0.q ((hx3.j hx4).j hx5) (by simp<;>omega);have htb:=htb.u hx5;have hB1:=hB1.q ((hx3.j hx4).j hx5) (by simp<;>omega);have hW1:=hW1.u hx5;have hK1:=hK1.q ((hx3.j hx4).j hx5) (by simp<;>omega);have hB3:=hB3.u hx5;have hCS5:=A8 (T1) w5;have hb3n:b3∉T1:=fun h=>by have:=hTm _ h;omega
 have hCT:∀ x∈T1,x∈T∨w.heap.size≤x:=fun x hx=>(hs1 x hx).imp id (fun h=>by omega)
 refine Z 1 J (D6 J (C1 Cq5 J ‹_› ‹_› J J) ?_);refine Z 3 J (Fa Cw5 J (D6 J (B3 o67 J ‹_› ‹_› (by rfl)) ?_));refine C5 J (C3 fb97 J) (cb p (M0 a q).2 kv T1 vb F _ hW1 htb hF (by omega)) ?_;rintro v9 w6 ⟨hxb,T2,hW2,hs2,hK2⟩;have hzb:=hxb.size;have hC:=hC.step hxb ‹_›;have hB1:=hB1.q hxb ‹_›;have hCS5:=hCS5.step hxb (by exact fun x h=>.inl h);refine ⟨hCS5,?_⟩;obtain ⟨f2,l2,rfl⟩:=hK2.val;have hK1:=hK1.walk hxb hs2 (q:=(M0 b (M0 a q).2).2) (by omega);have hb1m:b1∉T2:=fun h=>by rcases hs2 _ h with h|h;exact hb1n h;omega
 have hCT2:∀ x∈T2,x∈T∨w.heap.size≤x:=fun x hx=>by rcases hs2 _ hx with h2|h2;exact hCT _ h2;exact .inr (by omega)
 refine Ca fb133 J (cat_c p (M0 b (M0 a q).2).2 kv T2 (M0 a q).1 (M0 b (M0 a q).2).1 _ _ w.heap.size (World.heap _).size _ hW2 (hK1.lts.wide (by omega) (El1 _)) (hK2.lts.wide (by omega) (El1 _))) ?_;rintro v9 w7 ⟨hxc,hW3,hK3⟩;have hC:=hC.step hxc ‹_›;have hB1:=hB1.q hxc ‹_›;obtain ⟨f3,l3,rfl⟩:=hK3.val;have hTp:∀ x∈T2,x∉[b1]:=fun x hx h=>by simp at h;rw [h] at hx;exact hb1m hx
 refine Pe Bf3 J ‹_› J J ?_;intro w8 hs8 hx8 hB1;have hz8:=hx8.size;have hC:=hC.step hx8 (by simp;omega);have hW3:=hW3.q hx8 ‹_›;have hK3:=hK3.q hx8 (by simp;omega);refine Qc (A6 (D5 J J (A5 Cq5 ‹_› J J) ?_));exact ⟨hC,T2,hW3,hCT2,hK3.wide (by omega) (by omega)⟩
theorem walk_alt (a b:Cor) (ca:Bp1 a) (cb:Bp1 b):Bp1 (.alt a b):=by
 intro p q kv T v F w hW hT hF hl;obtain ⟨pn,va,vb,rfl,hFp,hB0,hta,htb⟩:=hT;have hC:=A8 T w;have hTb:=hW.mem;have hpw:=hW.lt;have hnp:=hF pn hFp;have hTF:∀ x∈T,¬ F x:=fun x hx h=>by have:=hTb x hx;have:=hF x h;omega
 have hls:q.S.length+((L6 a).length+(L6 b).length)≤1000000:=by simpa [L6] using hl
 have hl1:=Al6 a q;have hl2:=Al6 b (M0 a q).2
 try have hlB0:=hB0.lt
 refine D4 Tryz.func97 J J (Qd (B5 J (B8 Ar3 J) ?_));intro b1 w1 hb1 hs1 hx1 hB1;have hC:=hC.s0 hx1;have hW:=hW.u hx1;have hB0:=hB0.u hx1;have hta:=hta.u hx1;have htb:=htb.u hx1;refine Qc (Qa (Qd (Z 2 J (Fa Au5 J (Lb o3 J ‹_› (by rfl) ?_)))));refine Qc (B2 (Qd (Zc 2 J (E4 (rfl) (Qd (Zc 2 J (E4 (rfl) (Qd (Zc 2 J (E3 (rfl) (Qd (Z 3 J (Fa Cd2 J (Lb o67 J ‹_› (by rfl) ?_))))))))))))));refine Ca fb97 J (ca p q kv T va F _ hW hta hF (by omega)) ?_;rintro v9 w2 ⟨hx2,T1,hW1,hs1,hK1⟩;have hz2:=hx2.size;have hC:=hC.step hx2 (by exact fun x h=>.inl h);have hB0:=hB0.q hx2 (by intro h;have:=hTb _ h;omega);have hta:=hta.q hx2 ‹_›;have htb:=htb.q hx2 ‹_›;have hB1:=hB1.q hx2 (by intro h;have:=hTb _ h;omega);obtain ⟨f1,l1,rfl⟩:=hK1.val;have hTn:∀ x∈T1,x∉[b1]:=fun x hx h=>by simp at h;rcases hs1 x hx with h2|h2;have:=hTb x h2;omega;omega
 have hTm:=hW1.mem;have hTF1:∀ x∈T1,¬ F x:=fun x hx h=>by have:=hTm x hx;have:=hF x h;omega
 have hb1n:b1∉T1:=fun h=>hTn _ h (by simp)
 have hpn1:pn∉T1:=fun h=>hTF1 _ h hFp
 have hbL:=hTm;have hCT:∀ x∈T1,x∈T∨w.heap.size≤x:=fun x hx=>(hs1 x hx).imp id (fun h=>by omega)
 refine B5 J (B8 Ar3 J) ?_;intro b3 w3 hb3 hs3 hx3 hB3;have hta:=hta.u hx3;have htb:=htb.u hx3;have hW1:=hW1.u hx3;refine Pe Bf3 J ‹_› J J ?_;intro w4 hs4 hx4 hB3;have hC:=hC.step (hx3.j hx4) (by simp<;>omega);have hB0:=hB0.q (hx3.j hx4) (by simp<;>omega);have hta:=hta.q hx4 (by intro b hb hFb;have:=hF _ hFb;simp at hb;omega);have htb:=htb.q hx4 (by intro b hb hFb;have:=hF _ hFb;simp at hb;omega);have hB1:=hB1.q (hx3.j hx4) (by simp<;>omega);have hW1:=hW1.q hx4 (by intro x hx;have h1:=hbL x hx;simp;omega);have hK1:=hK1.q (hx3.j hx4) (by simp<;>omega);refine Qc (Qd ?_);have hb3n:b3∉T1:=fun h=>by have:=hTm _ h;omega
 refine Z 3 J (Fa Cw5 J (Lb o67 J ‹_› (by rfl) ?_));refine Ca fb97 J (cb p (M0 a q).2 kv T1 vb F _ hW1 htb hF (by omega)) ?_;rintro v9 w5 ⟨hxb,T2,hW2,hs2,hK2⟩;have hzb:=hxb.size;have hC:=hC.step hxb ‹_›;have hB0:=hB0.q hxb ‹_›;have hta:=hta.q hxb ‹_›;have htb:=htb.q hxb ‹_›;have hB1:=hB1.q hxb ‹_›;have hB3:=hB3.q hxb ‹_›;obtain ⟨f2,l2,rfl⟩:=hK2.val;have hK1:=hK1.walk hxb hs2 (q:=(M0 b (M0 a q).2).2) (by omega);have hTm2:=hW2.mem;have hb1m:b1∉T2:=fun h=>by rcases hs2 _ h with h|h;exact hb1n h;omega
 have hCT2:∀ x∈T2,x∈T∨w.heap.size≤x:=fun x hx=>by rcases hs2 _ hx with h2|h2;exact hCT _ h2;exact .inr (by omega)
 have hbL:=hTm2;refine B5 J (B8 Ar3 J) ?_;intro b6 w6 hb6 hs6 hx6 hB6;have hta:=hta.u hx6;have htb:=htb.u hx6;have hW2:=hW2.u hx6;refine Pe Bf3 J ‹_› J J ?_;intro w7 hs7 hx7 hB6;have hta:=hta.q hx7 (by intro b hb hFb;have:=hF _ hFb;simp at hb;omega);have htb:=htb.q hx7 (by intro b hb hFb;have:=hF _ hFb;simp at hb;omega);have hW2:=hW2.q hx7 (by intro x hx;have h1:=hbL x hx;simp;omega);refine Qc (Qa (C8 (S:=[]) 15 [(0,0),(0,1),(0,2),(0,3),(0,6),(0,7),(0,8),(0,9),(0,11),(0,12),(0,13),(0,14),(1,4),(1,5),(1,10),(2,15),(2,16),(2,17)] mo (by kernel_rfl) ?_));intro w8 hx8 hh8;have hB3:=hB3.q ((hx6.j hx7).j hx8) (by simp<;>omega);have hK1:=hK1.q ((hx6.j hx7).j hx8) (by simp<;>omega);have hK2:=hK2.q ((hx6.j hx7).j hx8) (by simp<;>omega);have hB6:=hB6.u hx8;have hCS8:=A8 ([]) w8;have hr1:=hK1.bags;have hr2:=hK2.bags;refine Fa Au6 J (D6 J (B3 o3 J ‹_› (by simp;done) (by rfl)) ?_);refine Fa Au6 J (D6 J (B3 o3 J ‹_› (by simp;done) (by rfl)) ?_);refine Fa Ao8 J (D6 J (B3 Cg7 J ‹_› (by simp;done) (by rfl)) ?_);refine Fa Ao8 J (D6 J (B3 Cg7 J ‹_› (by simp;done) (by rfl)) ?_);refine Fa Ao7 J (D6 J (B3 Cg7 J ‹_› (by simp;done) (by rfl)) ?_);refine Fa Ao7 J (D6 J (B3 Cg7 J ‹_› (by simp;done) (by rfl)) ?_);refine E2 J (B7 T8 Tryz.underlying24 zr3 J J J (by rfl)) ?_;intro b9 w9 hb9 hs9 hx9 hB9;have hz9:=hx9.size;have hB0:=hB0.q (((hx6.j hx7).j hx8).j hx9) (by simp<;>omega);have hta:=hta.u (hx8.s0 hx9);have htb:=htb.u (hx8.s0 hx9);have hB3:=hB3.u hx9;have hK1:=hK1.u hx9;have hK2:=hK2.u hx9;have hB6:=hB6.u hx9;have hCS8:=hCS8.s0 hx9;refine ⟨hCS8,?_⟩;refine C5 J (C3 fb46 J) (Az9 [(M0 a q).1.void,(M0 b (M0 a q).2).1.void] _ _ _ _ _ ‹_› J (by intro x hx;simp at hx;omega) (by simp)) ?_;rintro _ _ ⟨rfl,rfl⟩;refine ⟨hCS8,?_⟩;refine C5 J (C3 fb134 J) (Bh2 f1 f2 _ _ _ 1 _ hK1.bags.1 hK2.bags.1 (by omega)) ?_;rintro _ w11 ⟨hx11,o1,rfl,ho1,hS1'⟩;have hz11:=hx11.size;have hK1:=hK1.u hx11;have hK2:=hK2.u hx11;have hCS8:=hCS8.s0 hx11;have hS1:=hS1';clear hS1';refine ⟨hCS8,?_⟩;refine Ca fb134 J (Bh2 l1 l2 _ _ _ 1 _ hK1.bags.2.1 hK2.bags.2.1 (by omega)) ?_;rintro _ w12 ⟨hx12,o2,rfl,ho2,hS2'⟩;have hB1:=hB1.q (((((hx6.j hx7).j hx8).j hx9).j hx11).j hx12) (by simp<;>omega);have hW2:=hW2.u (((hx8.s0 hx9).s0 hx11).s0 hx12);have hS1:=hS1.u hx12;have hS2:=hS2';clear hS2';have hl3:=hS1.lt;have hl4:=hS2.lt;have hTm3:∀ x∈T2,x∉[b1]:=fun x hx h=>by simp at h;rw [h] at hx;exact hb1m hx
 refine C9 J (B1 Ar3 Dx1 J (by rfl)) ?_;refine Pe Bf3 J ‹_› J J ?_;intro w13 hs13 hx13 hB1;have hC:=hC.step ((((((hx6.j hx7).j hx8).j hx9).j hx11).j hx12).j hx13) (by simp<;>omega);have hW2:=hW2.q hx13 ‹_›;have hS1:=hS1.q hx13 (by simp;omega);have hS2:=hS2.q hx13 (by simp;omega);refine Qc (A6 (D5 J J (A5 Cq5 ‹_› J J) ?_));refine ⟨hC,T2,hW2,hCT2,o1,o2,?_,hS1,hS2,⟨by omega,by omega⟩,⟨by omega,by omega⟩,fun h=>by have:=hTm2 _ h;omega,fun h=>by have:=hTm2 _ h;omega,(M8 _ _).1,(M8 _ _).2⟩;rw [Aw0 _ _ hr1.2.2.2.2.2.2.1 hr1.2.2.2.2.2.2.2]
 rfl
theorem Ds5 (lz:Bool) (a:Cor) (ca:Bp1 a):Bp1 (.star lz a):=by
 intro p q kv T v F w hW hT hF hl;obtain ⟨pn,va,rfl,hFp,hB0,hta⟩:=hT;have hC:=A8 T w;have hTb:=hW.mem;have hls:q.S.length+(L6 a).length≤1000000:=by simpa [L6] using hl
 refine D4 Tryz.func97 J J (Qd (B5 J (B8 Ar3 J) ?_));intro b1 w1 hb1 hs1 hx1 hB1;have hC:=hC.s0 hx1;have hW:=hW.u hx1;have hB0:=hB0.u hx1;refine Qc (Qa (Qd (Z 2 J (Fa Au5 J (Lb o3 J ‹_› (by rfl) ?_)))));refine Qc (B2 (Qd (Zc 2 J (E4 (rfl) (Qd (Zc 2 J (E4 (rfl) (Qd (Zc 2 J (E4 (rfl) (Qd (Zc 2 J (E3 (rfl) (Qd (Z 3 J (Fa Cd2 J (Lb o67 J ‹_› (by rfl) ?_)))))))))))))))));refine Ca fb97 J (ca p q kv T va F _ hW (hta.u ‹_›) hF (by omega)) ?_;rintro v9 w2 ⟨hx2,T1,hW1,hs1,hK1⟩;have hz2:=hx2.size;have hC:=hC.step hx2 (by exact fun x h=>.inl h);have hB1:=hB1.q hx2 (by intro h;have:=hTb _ h;omega);obtain ⟨f1,l1,rfl⟩:=hK1.val;have hTn:∀ x∈T1,x∉[b1]:=fun x hx h=>by simp at h;rcases hs1 x hx with h2|h2;have:=hTb x h2;omega;omega
 have hTm:=hW1.mem;have hb1n:b1∉T1:=fun h=>hTn _ h (by simp)
 have hbL:=hTm;have hCT:∀ x∈T1,x∈T∨w.heap.size≤x:=fun x hx=>(hs1 x hx).imp id (fun h=>by omega)
 refine B5 J (B8 Ar3 J) ?_;intro b3 w3 hb3 hs3 hx3 hB3;have hC:=hC.s0 hx3;have hB1:=hB1.u hx3;have hW1:=hW1.u hx3;have hK1:=hK1.u hx3;refine Pb Bf3 J J ‹_› J J J J J ?_;intro w4 hs4 hx4 hB3;have hC:=hC.step hx4 (by simp;omega);have hB1:=hB1.q hx4 (by simp;omega);have hW1:=hW1.q hx4 (by intro x hx;have h1:=hbL x hx;simp;omega);have hK1:=hK1.q hx4 (by simp;omega);refine Qc (Qd ?_);have hb3n:b3∉T1:=fun h=>by have:=hTm _ h;omega
 have hr1:=hK1.bags;refine Z 1 J (Fa Ao7 J (Lb Cg7 J ‹_› (by rfl) ?_));refine Fa Ao8 J (Lb Cg7 J ‹_› (by rfl) ?_);refine Ca fb135 J (link_c p (M0 a q).2 kv T1 l1 f1 (M0 a q).1.last (M0 a q).1.first _ hW1 hr1.2.1 hr1.1 hr1.2.2.2.2.2.1 hr1.2.2.2.2.1) ?_;rintro _ w5 ⟨hx5,hW2⟩;have hC:=hC.step hx5 ‹_›;have hB1:=hB1.q hx5 ‹_›;have hK1:=hK1.q hx5 (by simp;done);have hB3:=hB3.q hx5 ‹_›;have hTm2:∀ x∈T1,x∉[b1]:=hTn;refine Qc (Qd (Fa Ao8 J (Lb Cg7 J ‹_› (by rfl) ?_)));refine Fa Ao7 J (Lb Cg7 J ‹_› (by rfl) ?_);refine C9 J (B1 Ar3 Dx1 J (by rfl)) ?_;refine Pb Bf3 J J ‹_› J J J J J ?_;intro w6 hs6 hx6 hB1;have hC:=hC.step hx6 (by simp;omega);have hK1:=hK1.q hx6 (by simp;omega);have hW2:=hW2.q hx6 ‹_›;refine Qc (A6 (D5 J J (A5 Cq5 ‹_› J J) ?_));have hr2:=hK1.bags;exact ⟨hC,T1,hW2,hCT,f1,l1,rfl,hr2.1,hr2.2.1,⟨by omega,hr2.1.lt⟩,⟨by omega,hr2.2.1.lt⟩,hr2.2.2.2.2.1,hr2.2.2.2.2.2.1,by simp [M0],by simp [M0]⟩
theorem Br5:∀ (t:Cor),Bp1 t
 | .empty=>Dj8
 | .set s=>walk_set s
 | .cat a b=>walk_cat a b (Br5 a) (Br5 b)
 | .alt a b=>walk_alt a b (Br5 a) (Br5 b)
 | .star lz a=>Ds5 lz a (Br5 a)
end Go.Clt
