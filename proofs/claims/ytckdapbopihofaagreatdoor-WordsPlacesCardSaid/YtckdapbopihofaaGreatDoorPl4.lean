import Derived.Lib.AppendStr
import Derived.Laws.IdiomStrings
import Derived.Test.YtckdapbopihofaaGreatDoorPl3
/- The word of any place, any word's place, and the next one (WordsPlaces). A part of that proof: Weigh6, Auto1, Auto2, Own2, Member1, Member2, Member3, Member4, Mk, BlkP, Blk1, Blk2, Blk3, Bld, Bld1, Bld2, DfaP, DfaM, Dfa1, Str, Dfa2, DfaI, Dfa3, DfaK, Dfa4, Dfa5, Dfa6, Dfa7, Dfa8, Aw0, Aw1, Aw2. Conditions: none beyond the statement's own. By an AI agent; no person has read it. -/
set_option linter.unusedVariables false
set_option linter.unusedSimpArgs false
set_option maxRecDepth 8000
set_option maxHeartbeats 4000000
namespace Go.Clt
open Go Go.RowKit Go.Proofs
structure WeiM (F:Nat→Prop) (w:World) (p:Nat) (k:Kn) (q:Wst) (x1 x2:Nat) (A:Option Addr) (c:Nat) (A2:Option Addr) (c2:Nat) (bs:List Nat):Prop where
 blk:Blk w p [.int .i64 k.void,.map (some x1),.map (some x2),.slice A q.S.length c,.slice A2 q.S.length c2] 161
 fp:F p
 rs:Rd F w 4 A q.S.length (F5 q.S)
 rf:Rd F w 1 A2 q.S.length (Ea0 bs)
 gb:GB w bs q.G q.S.length
 gl:q.G.length=q.S.length
 fb:∀ x∈bs,F x
 bf:Bag w x1 k.first q.S.length
 bl:Bag w x2 k.last q.S.length
 f1:F x1
 f2:F x2
 v0:0≤k.void
 v1:k.void≤9223372036854775807
def IsWei (F:Nat→Prop) (w:World) (p:Nat) (k:Kn) (q:Wst):Prop:=∃ x1 x2 A c A2 c2 bs,WeiM F w p k q x1 x2 A c A2 c2 bs
theorem IsWei.q {F:Nat→Prop} {w w':World} {p:Nat} {k:Kn} {q:Wst} {S:List Nat} (h:IsWei F w p k q) (c:Chg S w w') (hS:∀ b∈S,¬ F b):IsWei F w' p k q:=by
 obtain ⟨x1,x2,A,c1,A2,c2,bs,h⟩:=h;exact ⟨x1,x2,A,c1,A2,c2,bs,h.blk.q c (fun hm=>hS _ hm h.fp),h.fp,h.rs.q c hS,h.rf.q c hS,h.gb.q c (fun x hx hm=>hS _ hm (h.fb x hx)),h.gl,h.fb,h.bf.q c (fun hm=>hS _ hm h.f1),h.bl.q c (fun hm=>hS _ hm h.f2),h.f1,h.f2,h.v0,h.v1⟩
theorem IsWei.u {F:Nat→Prop} {w w':World} {p:Nat} {k:Kn} {q:Wst} (h:IsWei F w p k q) (c:Chg [] w w'):IsWei F w' p k q:=h.q c (by simp)
theorem IsWei.mono {F F':Nat→Prop} {w:World} {p:Nat} {k:Kn} {q:Wst} (h:IsWei F w p k q) (hF:∀ b,F b→b<w.heap.size→F' b):IsWei F' w p k q:=by
 obtain ⟨x1,x2,A,c1,A2,c2,bs,h⟩:=h;exact ⟨x1,x2,A,c1,A2,c2,bs,h.blk,hF _ h.fp h.blk.lt,h.rs.mono hF,h.rf.mono hF,h.gb,h.gl,fun x hx=>hF _ (h.fb x hx) (h.gb.lt x hx),h.bf,h.bl,hF _ h.f1 h.bf.lt,hF _ h.f2 h.bl.lt,h.v0,h.v1⟩
theorem IsWei.lt {F:Nat→Prop} {w:World} {p:Nat} {k:Kn} {q:Wst} (h:IsWei F w p k q):p<w.heap.size:=by
 obtain ⟨x1,x2,A,c1,A2,c2,bs,h⟩:=h;exact h.blk.lt
def T6 (t:Cor):Kn × Wst:=M0 t ⟨[],[]⟩
theorem Da4 (t:Cor):(T6 t).2.S=L6 t:=by unfold T6;rw [As8];rfl
theorem wnew_c (t:Cor) (v:Value) (F:Nat→Prop) (w:World) (hT:IsCor F w t v) (hF:∀ x,F x→x<w.heap.size) (hl:(L6 t).length≤1000000):
  Calls P 62 #[v] w (Ret fun u w'=>Chg [] w w'∧(600<(L6 t).length→u= .tuple #[.pointer none,.int .i64 3])∧((L6 t).length≤600→∃ p,u= .tuple #[.pointer (some ⟨p,0,none⟩),.int .i64 0]∧IsWei (FR w.heap.size w'.heap.size []) w' p (T6 t).1 (T6 t).2)):=by
 have hC:=A8 [] w;obtain ⟨pv,rfl⟩:=hT.ptr
 refine D4 Tryz.func62 J J (Qd (Zc 2 J (Qa (B2 (Qd (Z 1 J (C9 J (I0 Tryz.underlying67 J J) (Zc 1 J (A4 J (fun h0=>?_) (fun h0=>?_))))))))))
 ·try simp at h0
  all_goals cases h0
 ·try simp at h0
  refine Qd (Z 1 J (Ca fb96 J (Bs1 t _ F _ hT hl) ?_));rintro _ w1 ⟨hx1,A0,c0,rfl,hO0⟩;have hz1:=hx1.size;have hC:=hC.s0 hx1;have hT:=hT.u hx1
  refine Ln Tryz.underlying23 J (Zc 2 J (A4 J (fun h1=>?_) (fun h1=>?_)))
  ·try simp at h1
   exact Qd (Zc 2 J (A6 (J1 J J J ⟨hC,fun _=>rfl,fun h=>by omega⟩)))
  ·try simp at h1
   refine A7 (Qd (C9 J (B1 zr161 pl161 J (by rfl)) ?_));refine B5 J (E1 J J) ?_;intro b2 w2 hb2 hs2 hx2 hB2;have hT:=hT.u hx2;have hW0:IsW w2 b2 ⟨[],[]⟩ [.int .i64 0,.map none,.map none] [b2]:=⟨none,0,none,0,[],⟨hB2,rfl,Own.nil _ _ _ _,Own.nil _ _ _ _,⟨rfl,fun i hi=>by simp at hi⟩,rfl,List.nodup_nil,by simp⟩,by simp [wT,F7]⟩;refine Zc 1 J (Qd (Z 3 J (Ca fb97 J (Br5 t b2 ⟨[],[]⟩ _ [b2] _ F _ hW0 hT (fun x hx=>by have:=hF x hx;omega) (by simpa using hl)) ?_)));rintro v9 w3 ⟨hxa,T',hW',hs',hK'⟩;have hza:=hxa.size;obtain ⟨f1,l1,rfl⟩:=hK'.val;obtain ⟨A,c,A2,c2,bs,hK,rfl⟩:=hW';have hr:=hK'.bags;obtain ⟨hB0,_,hO,hO2,hG,hgl,hnd,hlo⟩:=hK;have hfn1:f1≠b2:=fun e=>hr.2.2.2.2.1 (by rw [e];exact K7.2 (.inl J))
   have hln1:l1≠b2:=fun e=>hr.2.2.2.2.2.1 (by rw [e];exact K7.2 (.inl J))
   have hK1:=hr.1;have hK2:=hr.2.1;have hbL:∀ x∈bs,b2<x:=hlo;refine Z 1 J (Fa Cd7 J (Pe Bf3 J ‹_› J J ?_));intro w4 hs4 hx4 hB0;have hC:=hC.step ((hx2.j hxa).j hx4) (by simp<;>omega);have hO:=(by exact hO.q hx4 (by intro x hx;simp at hx;left;omega));have hO2:=(by exact hO2.q hx4 (by intro x hx;simp at hx;left;omega));have hG:=hG.q hx4 (by intro x hx;have h1:=hbL x hx;simp;omega);have hK1:=hK1.q hx4 (by simp;omega);have hK2:=hK2.q hx4 (by simp;omega);refine Qc (Qd (Zc 3 J (A6 (J1 J J J ?_))));refine ⟨hC,fun h=>by omega,fun _=>⟨b2,rfl,f1,l1,A,c,A2,c2,bs,hB0,⟨by omega,by omega,by simp⟩,hO.rd (fun x h1 h2=>⟨by omega,h2,by simp⟩),hO2.rd (fun x h1 h2=>⟨by omega,h2,by simp⟩),hG,hgl,fun x hx=>⟨by have:=hlo x hx;omega,hG.lt x hx,by simp⟩,hK1,hK2,⟨by omega,hK1.lt,by simp⟩,⟨by omega,hK2.lt,by simp⟩,hr.2.2.2.2.2.2.1,hr.2.2.2.2.2.2.2⟩⟩
theorem Bg4 (F:Nat→Prop) (p:Nat) (k:Kn) (q:Wst) (w:World) (hW:IsWei F w p k q):Calls P 65 #[.pointer (some ⟨p,0,none⟩)] w (Ret fun u w'=>u= .int .i64 (q.S.length:Nat)∧Chg [] w w'):=by
 obtain ⟨x1,x2,A,c1,A2,c2,bs,h⟩:=hW;have hB0:=h.blk
 refine D4 Tryz.func65 J J (Qd (Zc 1 J (Qa (Qd (Z 1 J (C9 J (I0 Tryz.underlying115 J J) (Qc (A4 J (fun h0=>?_) (fun h0=>?_)))))))))
 ·try simp at h0
  all_goals cases h0
 ·try simp at h0
  refine A7 (Qd (Z 2 J (Fa Bm4 J (Lb o23 J ‹_› (by rfl) ?_))));exact Ln Tryz.underlying23 J (Zc 1 J (A6 (B4 J J ⟨rfl,A8 [] w⟩)))
theorem void_c (F:Nat→Prop) (p:Nat) (k:Kn) (q:Wst) (w:World) (hW:IsWei F w p k q):Calls P 77 #[.pointer (some ⟨p,0,none⟩)] w (Ret fun u w'=>u= .int .i64 k.void∧Chg [] w w'):=by
 obtain ⟨x1,x2,A,c1,A2,c2,bs,h⟩:=hW;have hB0:=h.blk
 refine D4 Tryz.func77 J J (Qd (Zc 1 J (Qa (Qd (Z 1 J (C9 J (I0 Tryz.underlying115 J J) (Qc (A4 J (fun h0=>?_) (fun h0=>?_)))))))))
 ·try simp at h0
  all_goals cases h0
 ·try simp at h0
  refine A7 (Qd (Z 2 J (Fa Cd7 J (Fa Au6 J (Lb o3 J ‹_› (by rfl) ?_)))));exact Zc 1 J (A6 (B4 J J ⟨rfl,A8 [] w⟩))
theorem whas_c (F:Nat→Prop) (p:Nat) (k:Kn) (q:Wst) (i:Int) (w:World) (hW:IsWei F w p k q):Calls P 99 #[.pointer (some ⟨p,0,none⟩),.int .i64 i] w (Ret fun u w'=>u= .bool (decide (0≤i∧i<q.S.length))∧Chg [] w w'):=by
 have hC:=A8 [] w
 refine D4 Tryz.func99 J J (Qd (Zc 1 J (Qd (Z 3 J (C0 (d:=7) J (fun h1=>?_) (fun h1=>?_))))))
 ·try simp at h1
  refine Qu J (Z 1 J (Qu J (Z 1 J (Qu J (Ca fb65 J (Bg4 F p k q _ hW) ?_)))));rintro _ w1 ⟨rfl,hx1⟩;have hC:=hC.s0 hx1;exact Qu J (Zc 3 J (A6 (B4 J J ⟨H5 (by rw [El4,cmpB_lss,El7];omega),hC⟩)))
 ·try simp at h1
  exact Qk J (Qk J (Qk J (Qk J (Zc 2 J (A6 (B4 J J ⟨H5 (by rw [El4,El7];simp;omega),hC⟩))))))
theorem wset_c (F:Nat→Prop) (p:Nat) (k:Kn) (q:Wst) (i:Nat) (hi:i<q.S.length) (hn:q.S.length≤1000000) (w:World) (hW:IsWei F w p k q) (hF:∀ b,F b→b<w.heap.size):Calls P 66 #[.pointer (some ⟨p,0,none⟩),.int .i64 i] w (Ret fun u w'=>u= .agg (C4 (q.S.getD i 0)).toArray∧Chg [] w w'):=by
 have hC:=A8 [] w;refine D4 Tryz.func66 J J (Qd (B5 J (B8 N0 J) ?_));intro b1 w1 hb1 hs1 hx1 hB1;have hW:=hW.u hx1;refine Qc (Qa (Qd (Z 2 J (Ca fb99 J (whas_c F p k q i _ hW) ?_))));rintro _ w2 ⟨rfl,hx2⟩;have hC:=hC.s0 (hx1.s0 hx2);have hW:=hW.u hx2;have hB1:=hB1.u hx2
 refine Zc 1 J (A4 J (fun h1=>?_) (fun h1=>?_))
 ·try simp at h1
  omega
 ·try simp at h1
  obtain ⟨x1,x2,A,c1,A2,c2,bs,h⟩:=hW;have hB0:=h.blk;have hR:=h.rs;obtain ⟨g,off,rfl,_,hgl,hc⟩:=hR.at_ (by omega)
  try have hlR:=hR.lt
  refine A7 (Qd (Z 2 J (Fa Bm4 J (Lb o23 J ‹_› (by rfl) ?_))));refine Z 1 J (C9 J (C2 Ar5 J J (by omega) (by omega)) (C9 J (E8 (vs:=(C4 (q.S.getD i 0))) J0 J (F4 _) (fun j v hj=>by have hj4:j<4:=(Em5.1 hj).1;rw [Em3];exact hc _ v (by rw [show (((i:Nat):Int)).toNat=i from by omega,O2 _ _ _ hi hj4];exact hj)) J) ?_));refine Pe J9 J ‹_› J J ?_;intro w3 hs3 hx3 hB1;have hC:=hC.step hx3 (by simp;omega);refine Qc (A6 (D5 J J (A5 J0 ‹_› J J) ?_));exact ⟨rfl,hC⟩
def Z2 (f:BagF) (n:Nat):List Int:=(List.range n).map f
def rowR (f:BagF) (R:List (Int × Int)):BagF:=fun i=>if (S9 R (i:Int)).isSome then 0 else f i
theorem O3 (f:BagF) (n:Nat):(Z2 f n).length=n:=by simp [Z2]
theorem Dv5 {f:BagF} {L:List (Int × Int)} {n m:Nat} (hf:BagL L f n):Z2 (rowR f L) m=List.replicate m 0:=by
 apply List.ext_getElem
 ·simp [Z2]
 ·intro i h1 h2;simp only [Z2,List.getElem_map,List.getElem_range,List.getElem_replicate,rowR]
  split
  ·rfl
  ·rename_i hm
   rw [hf.2.2]
   cases hx:S9 L (i:Int) with
   |none=>rfl
   |some v=>rw [hx] at hm;simp at hm
theorem row_end (f:BagF):rowR f []=f:=by funext i;simp [rowR,Ai6]
theorem row_step {f:BagF} {L R1 R2:List (Int × Int)} {k n m:Nat} {v:Int} (hf:BagL L f n) (hs:(R1++((k:Int),v)::R2).Sublist L):I8 (Z2 (rowR f (R1++R2)) m)=(I8 (Z2 (rowR f (R1++((k:Int),v)::R2)) m)).set k (.int .i64 v):=by
 obtain ⟨h1,h2,h3,h4,h5⟩:=Af9 hf.1 hs;simp only at h2 h3 h4 h5;apply Em4;intro i;simp only [I8,Z2,El8,En1,Eo2,Eq4]
 by_cases hi:i<m
 ·rw [Em7 hi];simp only [En4,rowR]
  by_cases hk:k=i
  ·subst hk;rw [Ek1 J,Ek1 hi,h2];simp [hf.2.2,h5]
  ·rw [Ek0 hk,h3 (i:Int) (by simp;omega)]
 ·rw [El5 (by simp;omega)];simp only [Option.map_none]
  split
  ·rw [Ek0 (by omega)]
  ·rfl
theorem row_c (F:Nat→Prop) (p:Nat) (k:Kn) (q:Wst) (x:Nat) (f:BagF) (w:World) (hn:q.S.length≤1000000) (hW:IsWei F w p k q) (hb:Bag w x f q.S.length) (hF:∀ b,F b→b<w.heap.size):
  Calls P 98 #[.pointer (some ⟨p,0,none⟩),.map (some x)] w (Ret fun u w'=>Chg [] w w'∧∃ b,u= .slice (some ⟨b,0,none⟩) q.S.length q.S.length∧w.heap.size≤b∧Blk w' b (I8 (Z2 f q.S.length)) 3):=by
 have hC:=A8 [] w;obtain ⟨L,hM,hL⟩:=hb;have hxl:=hM.lt;refine D4 Tryz.func98 J J (Qd (Zc 1 J (Qd (Z 1 J (Ca fb65 J (Bg4 F p k q _ hW) ?_)))));rintro _ w1 ⟨rfl,hx1⟩;have hz1:=hx1.size;refine B5 J (O7 Dg6 zr3 J (cs:=List.replicate q.S.length (.int .i64 0)) (by omega) (by omega) (by show (madeCells #[_] (((q.S.length:Nat):Int).toNat*1)).toList=_;rw [Ek9,En8];exact T4 _ _)) ?_;intro b2 w2 hb2 hs2 hx2 hB2;have hM:=hM.u (hx1.s0 hx2);refine Zc 1 J (Qa (Qd (Z 1 J (Bp7 (k:=3) (el:=3) J Cu7 J hM ?_))));intro b3 w3 hb3 hs3 hx3 hI3;have hC:=hC.s0 ((hx1.s0 hx2).s0 hx3);have hB2:=hB2.u hx3
 refine Qc (B2 (D8 (σ:=List (Int × Int)) (fun R=>[(5,.slice (some ⟨b2,0,none⟩) q.S.length q.S.length),(12,.pointer (some ⟨b3,0,none⟩))]) (fun R wr=>Chg [] w wr∧It ik wr b3 x L R∧Blk wr b2 (I8 (Z2 (rowR f R) q.S.length)) 3∧R.Sublist L) (fun R wr=>R.length) L ⟨(R0 J (by simp)),rfl,trivial⟩ ?_ ?_))
 ·refine ⟨hC,hI3,?_,List.Sublist.refl _⟩;rw [Dv5 hL];have:I8 (List.replicate q.S.length 0)=List.replicate q.S.length (.int .i64 0):=by simp [I8]
  rw [this];exact hB2
 rintro R w9 ⟨hC,hI,hB2,hs⟩
 refine Qd (Cg0 J J hI (fun hE=>?_) ?_)
 ·refine Zc 1 J (Qa (E4 J (Xb (Qd (Zc 2 J (A6 (B4 J J ?_)))))));rw [hE,row_end] at hB2;exact ⟨hC,b2,rfl,by omega,hB2⟩
 ·rintro L1 ⟨xk,xv⟩ L2 w4 hML hx4 hs4 hI4 hA4;have hB2:=hB2.q hx4 (by simp;omega)
  replace hI:=hI4
  subst hML;obtain ⟨hp0,hp1,hv0,hv1⟩:=hL.2.1 (xk,xv) (hs.subset (by simp));obtain ⟨k',rfl⟩:=Ep8 hp0;simp only at hp0 hp1 hv0 hv1;have hrl:=O3 (rowR f (L1++((k':Int),xv)::L2)) q.S.length;refine Zc 1 J (Qa (E3 J (A7 (B2 (Qd (C9 J (Bd1 J ‹_›) ?_))))));refine Zc 4 J (Qb (Z 3 J (C9 J (B0 T8 J J (by omega) (by omega)) (Pb (cs':=(I8 (Z2 (rowR f (L1++L2)) q.S.length))) sz3 J J hB2 J J J (by simp [I8,hrl];omega) (by rw [row_step hL hs];simp [Eq0,I8,hrl];omega) ?_))));intro w5 hs5 hx5 hB2;have hC:=hC.step (hx4.j hx5) (by simp<;>omega);have hI:=hI.q hx5 (by simp;omega);refine Qc ⟨L1++L2,sb J,?_,?_⟩;exact ⟨hC,hI,hB2,(Af9 hL.1 hs).1⟩;simp
def RowR (f:BagF) (n:Nat) (w:World) (u:Value) (w':World):Prop:=Chg [] w w'∧∃ b,u= .slice (some ⟨b,0,none⟩) n n∧w.heap.size≤b∧Blk w' b (I8 (Z2 f n)) 3
theorem Cx4 (F:Nat→Prop) (p:Nat) (k:Kn) (q:Wst) (w:World) (hn:q.S.length≤1000000) (hW:IsWei F w p k q) (hF:∀ b,F b→b<w.heap.size):Calls P 63 #[.pointer (some ⟨p,0,none⟩)] w (Ret (RowR k.first q.S.length w)):=by
 have hC:=A8 [] w;obtain ⟨x1,x2,A,c1,A2,c2,bs,h⟩:=hW;have hW:IsWei F w p k q:=⟨x1,x2,A,c1,A2,c2,bs,h⟩;have hB0:=h.blk;have hK1:=h.bf
 refine D4 Tryz.func63 J J (Qd (Zc 1 J (Qa (Qd (Z 1 J (C9 J (I0 Tryz.underlying115 J J) (Qc (A4 J (fun h0=>?_) (fun h0=>?_)))))))))
 ·try simp at h0
  all_goals cases h0
 ·try simp at h0
  refine A7 (Qd (Z 3 J (Fa Cd7 J (Fa Ao8 J (Lb Cg7 J ‹_› (by rfl) ?_)))));refine Ca fb98 J (row_c F p k q x1 k.first _ hn hW hK1 hF) ?_;rintro v7 w1 ⟨hx1,b,hv,hb,hB⟩;have hC:=hC.s0 hx1;exact Zc 1 J (A6 (B4 J J ⟨hC,b,hv,by omega,hB⟩))
theorem Bu6 (F:Nat→Prop) (p:Nat) (k:Kn) (q:Wst) (w:World) (hn:q.S.length≤1000000) (hW:IsWei F w p k q) (hF:∀ b,F b→b<w.heap.size):Calls P 64 #[.pointer (some ⟨p,0,none⟩)] w (Ret (RowR k.last q.S.length w)):=by
 have hC:=A8 [] w;obtain ⟨x1,x2,A,c1,A2,c2,bs,h⟩:=hW;have hW:IsWei F w p k q:=⟨x1,x2,A,c1,A2,c2,bs,h⟩;have hB0:=h.blk;have hK1:=h.bl
 refine D4 Tryz.func64 J J (Qd (Zc 1 J (Qa (Qd (Z 1 J (C9 J (I0 Tryz.underlying115 J J) (Qc (A4 J (fun h0=>?_) (fun h0=>?_)))))))))
 ·try simp at h0
  all_goals cases h0
 ·try simp at h0
  refine A7 (Qd (Z 3 J (Fa Cd7 J (Fa Ao7 J (Lb Cg7 J ‹_› (by rfl) ?_)))));refine Ca fb98 J (row_c F p k q x2 k.last _ hn hW hK1 hF) ?_;rintro v7 w1 ⟨hx1,b,hv,hb,hB⟩;have hC:=hC.s0 hx1;exact Zc 1 J (A6 (B4 J J ⟨hC,b,hv,by omega,hB⟩))
theorem Be6 (F:Nat→Prop) (p:Nat) (k:Kn) (q:Wst) (i:Nat) (hi:i<q.S.length) (w:World) (hn:q.S.length≤1000000) (hW:IsWei F w p k q) (hF:∀ b,F b→b<w.heap.size):Calls P 67 #[.pointer (some ⟨p,0,none⟩),.int .i64 i] w (Ret (RowR (q.G.getD i Q6) q.S.length w)):=by
 have hC:=A8 [] w;refine D4 Tryz.func67 J J (Qd (Zc 1 J (Qa (Qd (Z 2 J (Ca fb99 J (whas_c F p k q i _ hW) ?_))))));rintro _ w1 ⟨rfl,hx1⟩;have hz1:=hx1.size;have hC:=hC.s0 hx1;have hW:=hW.u hx1
 refine Zc 1 J (A4 J (fun h1=>?_) (fun h1=>?_))
 ·try simp at h1
  omega
 ·try simp at h1
  obtain ⟨x1,x2,A,c1,A2,c2,bs,h⟩:=hW;have hW:IsWei F w1 p k q:=⟨x1,x2,A,c1,A2,c2,bs,h⟩;have hB0:=h.blk;have hib:i<bs.length:=by rw [h.gb.1,h.gl];exact hi
  have hK1:=h.gb.2 i hib;have hR:=h.rf;obtain ⟨g,off,rfl,_,_,_⟩:=hR.at_ (by omega);have hcell:=(hR.one (Cm0 bs i hib)).2;refine A7 (Qd (Z 3 J (Fa Cd6 J (Lb o159 J ‹_› (by rfl) ?_))));refine Z 1 J (C9 J (B0 sl159 J J (by omega) (by omega)) (Lc Cg7 J hcell (Ca fb98 J (row_c F p k q _ _ _ hn hW hK1 (fun y hy=>by have:=hF y hy;omega)) ?_)));rintro v7 w2 ⟨hx2,b,hv,hb,hB⟩;have hC:=hC.s0 hx2;exact Zc 1 J (A6 (B4 J J ⟨hC,b,hv,by omega,hB⟩))
def Am8 (n:Nat) (gs:List Nat):List Value:=gs.map fun b=>.slice (some ⟨b,0,none⟩) n n
theorem Ac3 (n:Nat) (gs:List Nat) (k:Nat) (h:k<gs.length):(Am8 n gs)[k]?=some (.slice (some ⟨gs.getD k 0,0,none⟩) n n):=by simp [Am8,Ek4 h,Ek2]
def GR (w:World) (lo:Nat) (gs:List Nat) (G:List BagF) (n:Nat):Prop:=∀ i,i<gs.length→lo≤gs.getD i 0∧Blk w (gs.getD i 0) (I8 (Z2 (G.getD i Q6) n)) 3
theorem GR.mem {w:World} {lo:Nat} {gs:List Nat} {G:List BagF} {n:Nat} (h:GR w lo gs G n) {x:Nat} (hx:x∈gs):lo≤x∧∃ cs,Blk w x cs 3:=by
 obtain ⟨i,hi,rfl⟩:=Er2.1 hx;have:=h i hi;rw [Ek2,Ek4 hi] at this;exact ⟨this.1,_,this.2⟩
theorem GR.q {S:List Nat} {w w':World} {lo:Nat} {gs:List Nat} {G:List BagF} {n:Nat} (h:GR w lo gs G n) (k:Chg S w w') (hS:∀ x∈gs,x∉S):GR w' lo gs G n:=fun i hi=>⟨(h i hi).1,(h i hi).2.q k (hS _ (G9 gs 0 i hi))⟩
theorem GR.u {w w':World} {lo:Nat} {gs:List Nat} {G:List BagF} {n:Nat} (h:GR w lo gs G n) (k:Chg [] w w'):GR w' lo gs G n:=h.q k (by simp)
theorem GR.snoc {w:World} {lo b:Nat} {gs:List Nat} {G:List BagF} {n:Nat} (h:GR w lo gs G n) (hlo:lo≤b) (hb:Blk w b (I8 (Z2 (G.getD gs.length Q6) n)) 3):GR w lo (gs++[b]) G n:=fun i hi=>by
 simp at hi
 by_cases h2:i<gs.length
 ·rw [Ek2,Em6 h2,← Ek2];exact h i h2
 ·have:i=gs.length:=by omega
  subst this;rw [Ek2 (l:=gs++[b]),Em2 (El1 _)];simp only [Ev0,Et2,Eo1];exact ⟨hlo,hb⟩
structure AutM (F:Nat→Prop) (w:World) (p:Nat) (k:Kn) (q:Wst) (pw:Nat) (A:Option Addr) (c:Nat) (bf bl:Nat) (A2:Option Addr) (c2:Nat) (gs:List Nat):Prop where
 blk:Blk w p [.pointer (some ⟨pw,0,none⟩),.slice A q.S.length c,.slice (some ⟨bf,0,none⟩) q.S.length q.S.length,.slice (some ⟨bl,0,none⟩) q.S.length q.S.length,.slice A2 q.S.length c2] 120
 fp:F p
 wei:IsWei F w pw k q
 rs:Rd F w 4 A q.S.length (F5 q.S)
 first:Blk w bf (I8 (Z2 k.first q.S.length)) 3
 ff:F bf
 last:Blk w bl (I8 (Z2 k.last q.S.length)) 3
 fl:F bl
 rg:Rd F w 1 A2 q.S.length (Am8 q.S.length gs)
 gr:GR w 0 gs q.G q.S.length
 fg:∀ x∈gs,F x
 gl:gs.length=q.S.length
def IsAut (F:Nat→Prop) (w:World) (p:Nat) (k:Kn) (q:Wst):Prop:=∃ pw A c bf bl A2 c2 gs,AutM F w p k q pw A c bf bl A2 c2 gs
theorem IsAut.q {F:Nat→Prop} {w w':World} {p:Nat} {k:Kn} {q:Wst} {S:List Nat} (h:IsAut F w p k q) (c:Chg S w w') (hS:∀ b∈S,¬ F b):IsAut F w' p k q:=by
 obtain ⟨pw,A,c1,bf,bl,A2,c2,gs,h⟩:=h;exact ⟨pw,A,c1,bf,bl,A2,c2,gs,h.blk.q c (fun hm=>hS _ hm h.fp),h.fp,h.wei.q c hS,h.rs.q c hS,h.first.q c (fun hm=>hS _ hm h.ff),h.ff,h.last.q c (fun hm=>hS _ hm h.fl),h.fl,h.rg.q c hS,h.gr.q c (fun x hx hm=>hS _ hm (h.fg x hx)),h.fg,h.gl⟩
theorem IsAut.u {F:Nat→Prop} {w w':World} {p:Nat} {k:Kn} {q:Wst} (h:IsAut F w p k q) (c:Chg [] w w'):IsAut F w' p k q:=h.q c (by simp)
theorem IsAut.mono {F F':Nat→Prop} {w:World} {p:Nat} {k:Kn} {q:Wst} (h:IsAut F w p k q) (hF:∀ b,F b→b<w.heap.size→F' b):IsAut F' w p k q:=by
 obtain ⟨pw,A,c1,bf,bl,A2,c2,gs,h⟩:=h;exact ⟨pw,A,c1,bf,bl,A2,c2,gs,h.blk,hF _ h.fp h.blk.lt,h.wei.mono hF,h.rs.mono hF,h.first,hF _ h.ff h.first.lt,h.last,hF _ h.fl h.last.lt,h.rg.mono hF,h.gr,fun x hx=>hF _ (h.fg x hx) (by obtain ⟨_,cs,hb⟩:=h.gr.mem hx;exact hb.lt),h.gl⟩
theorem GR.off {w:World} {lo lo':Nat} {gs:List Nat} {G:List BagF} {n:Nat} (h:GR w lo gs G n) {el:TypeId} {sz m c:Nat} {A:Option Addr} {cs:List Value} (ho:Own w lo' el sz A m c cs) (hne:el≠3):∀ x∈gs,x∉F7 A:=fun x hx hm=>by
 obtain ⟨_,cs',hb⟩:=h.mem hx;exact ho.offBlk hb hne x hm (by simp)
theorem GR.low {w:World} {lo lo':Nat} {gs:List Nat} {G:List BagF} {n:Nat} (h:GR w lo gs G n) (hl:lo'≤lo):GR w lo' gs G n:=fun i hi=>⟨En6 hl (h i hi).1,(h i hi).2⟩
theorem anew_c (t:Cor) (v:Value) (F0:Nat→Prop) (w:World) (hT:IsCor F0 w t v) (hF0:∀ x,F0 x→x<w.heap.size) (hl:(L6 t).length≤1000000):
  Calls P 37 #[v] w (Ret fun u w'=>Chg [] w w'∧(600<(L6 t).length→u= .tuple #[.pointer none,.int .i64 3])∧((L6 t).length≤600→∃ p,u= .tuple #[.pointer (some ⟨p,0,none⟩),.int .i64 0]∧IsAut (FR w.heap.size w'.heap.size []) w' p (T6 t).1 (T6 t).2)):=by
 have hC:=A8 [] w;refine D4 Tryz.func37 J J (Qd (Zc 2 J (Qd (Z 1 J (Ca fb62 J (wnew_c t v F0 _ hT hF0 hl) ?_)))));rintro v6 w1 ⟨hx1,hbig,hsm⟩;have hz1:=hx1.size;have hC:=hC.s0 hx1
 have hcase:(600<(L6 t).length∧v6= .tuple #[.pointer none,.int .i64 3])∨((L6 t).length≤600∧∃ p,v6= .tuple #[.pointer (some ⟨p,0,none⟩),.int .i64 0]∧IsWei (FR w.heap.size w1.heap.size []) w1 p (T6 t).1 (T6 t).2):=by
  rcases Eq7 600 (L6 t).length with h|h
  ·exact .inl ⟨h,hbig h⟩
  ·exact .inr ⟨h,hsm h⟩
 by_cases hbg:600<(L6 t).length
 ·rcases hcase with ⟨_,rfl⟩|⟨h,_⟩
  rotate_left
  omega;exact Zc 5 J (Qa (Qd (Zc 2 J (E3 (rfl) (Qd (Zc 3 J (A6 (J1 J J J ⟨hC,fun _=>rfl,fun h=>by omega⟩))))))))
 ·rcases hcase with ⟨h,_⟩|⟨_,pw,rfl,hW⟩;omega;refine Zc 5 J (Qa (Qd (Zc 2 J (E4 (rfl) ?_))));have hSl:=Da4 t;generalize T6 t=kq at*;obtain ⟨k,q⟩:=kq;simp only at hSl hW;have hn:q.S.length≤600:=by rw [hSl];omega
  have hF:∀ b,FR w.heap.size w1.heap.size [] b→b<w1.heap.size:=fun b h=>h.2.1
  refine A7 (Qd (Z 2 J (Ca fb63 J (Cx4 _ pw k q _ (by omega) hW hF) ?_)));rintro v7 w2 ⟨hx2,bf,rfl,hbf,hBf⟩;have hz2:=hx2.size;have hW:=hW.u hx2
  try have hlBf:=hBf.lt
  refine Z 1 J (Ca fb64 J (Bu6 _ pw k q _ (by omega) hW (fun b h=>by have:=hF b h;omega)) ?_);rintro v8 w3 ⟨hx3,bl,rfl,hbl,hBl⟩
  try have hlBl:=hBl.lt
  refine C9 J (B1 zr120 pl120 J (by rfl)) ?_;refine B5 J (E1 J J) ?_;intro b4 w4 hb4 hs4 hx4 hB4;have hW:=hW.u (hx3.s0 hx4);refine Zc 1 J (Qa (Qd (Z 1 J (Ca fb65 J (Bg4 _ pw k q _ hW) ?_))));rintro _ w5 ⟨rfl,hx5⟩;have hC:=hC.s0 (((hx2.s0 hx3).s0 hx4).s0 hx5);have hW:=hW.u hx5;have hBf:=hBf.u ((hx3.s0 hx4).s0 hx5);have hBl:=hBl.u (hx4.s0 hx5);have hB4:=hB4.u hx5
  refine Zc 1 J (B2 (D8 (σ:=Nat × Option Addr × Nat × Option Addr × Nat × List Nat) (fun (i,A,c,A2,c2,gs)=>[(4,.pointer (some ⟨pw,0,none⟩)),(6,.pointer (some ⟨b4,0,none⟩)),(24,.int .i64 (q.S.length:Nat)),(25,.int .i64 i)]) (fun (i,A,c,A2,c2,gs) wr=>Chg [] w wr∧IsWei (FR w.heap.size w1.heap.size []) wr pw k q∧Blk wr b4 [.pointer (some ⟨pw,0,none⟩),.slice A i c,.slice (some ⟨bf,0,none⟩) q.S.length q.S.length,.slice (some ⟨bl,0,none⟩) q.S.length q.S.length,.slice A2 i c2] 120∧Own wr (b4+1) 70 4 A i c (F5 (q.S.take i))∧Own wr (b4+1) 24 1 A2 i c2 (Am8 q.S.length gs)∧GR wr (b4+1) gs q.G q.S.length∧gs.length=i∧i≤q.S.length∧Blk wr bf (I8 (Z2 k.first q.S.length)) 3∧Blk wr bl (I8 (Z2 k.last q.S.length)) 3) (fun (i,A,c,A2,c2,gs) wr=>q.S.length - i) (0,none,0,none,0,[]) (sb J) ?_ ?_))
  ·exact ⟨hC,hW,hB4,Own.nil _ _ _ _,Own.nil _ _ _ _,fun i hi=>absurd hi (by simp),rfl,El0 _,hBf,hBl⟩
  rintro ⟨i,A,c,A2,c2,gs⟩ w9 ⟨hC,hW,hB4,hO,hO2,hG,hgl,hi,hBf,hBl⟩;have hbf4:bf<b4∧bl<b4:=by omega
  try have hlB4:=hB4.lt
  try have hlBf:=hBf.lt
  try have hlBl:=hBl.lt
  refine Qd (Zc 1 J (Qa (A4 J (fun h2=>?_) (fun h2=>?_))))
  ·try simp at h2
   have hin:i<q.S.length:=by omega
   have hOb:=hO.blk;have hQb:=hO2.blk;have hQA:=hO2.apart hO (by decide);have hGA:=hG.off hO (by decide);have hbL:∀ x∈gs,b4<x:=fun x hx=>by have:=(hG.mem hx).1;omega
   refine A7 (Qa (B2 (Qd (Zc 2 J (Qa (C8 (S:=F7 A) 10 [(0,0),(0,1),(0,2),(0,3),(0,4),(0,5),(0,6),(1,7),(1,8),(1,9),(2,10),(2,11),(2,12)] mo (by kernel_rfl) ?_))))));intro w6 hx6 hh6;have hW:=hW.u hx6;have hB4:=hB4.u hx6;have hCS6:=A8 (F7 A) w6;refine Z 3 J (Fa Cd9 J (D6 J (B3 o23 J ‹_› (by intro h;have:=hOb _ h;omega) (by rfl)) ?_));refine Z 2 J (C5 J (C3 fb66 J) (wset_c _ pw k q i hin (by omega) _ hW (fun b h=>by have:=hF b h;omega)) ?_);rintro _ w7 ⟨rfl,hx7⟩;have hz7:=hx7.size;have hCS6:=hCS6.s0 hx7;refine ⟨hCS6,?_⟩;refine E2 J (B7 Ar5 Tryz.underlying23 N0 J J J (by rfl)) ?_;intro b8 w8 hb8 hs8 hx8 hB8;have hC:=hC.s0 ((hx6.s0 hx7).s0 hx8);have hW:=hW.u (hx7.s0 hx8);have hB4:=hB4.u (hx7.s0 hx8);have hO:=hO.u ((hx6.s0 hx7).s0 hx8);have hO2:=hO2.u ((hx6.s0 hx7).s0 hx8);have hG:=hG.u ((hx6.s0 hx7).s0 hx8);have hBf:=hBf.u ((hx6.s0 hx7).s0 hx8);have hBl:=hBl.u ((hx6.s0 hx7).s0 hx8);have hCS6:=hCS6.s0 hx8;refine ⟨hCS6,?_⟩;refine Ab7 J el23 J J hO (Blk.rd (F:=fun _=>True) ‹_› J trivial) (by rfl) (by omega) (by omega) ?_;intro A' c' w9 hO9 hx9 hA';have hz9:=hx9.size;have hC:=hC.step hx9 (by intro x h;have:=hOb x h;exact .inr (by omega));have hW:=hW.q hx9 (by intro x hx hf;have:=hOb x hx;have h1:=hf.1;have h2:=hf.2.1;omega);have hB4:=hB4.q hx9 (by intro h;have:=hOb _ h;omega);have hO2:=(by exact hO2.keep hx9 ‹_›);have hG:=hG.q hx9 ‹_›;have hBf:=hBf.q hx9 (by intro h;have:=hOb _ h;omega);have hBl:=hBl.q hx9 (by intro h;have:=hOb _ h;omega);have hCS6:=hCS6.step hx9 (by exact fun x h=>.inl h)
   replace hO:=hO9
   refine ⟨hCS6,?_⟩;have hAQ:=hO.apart hO2 (by decide);refine Z 1 J (Fa Cd9 J (Pe sz23 J ‹_› J J ?_));intro w10 hs10 hx10 hB4;have hW:=hW.q hx10 (by intro b hb hFb;have:=hF _ hFb;simp at hb;omega);have hO:=(by exact hO.q hx10 (by intro x hx;simp at hx;left;omega));have hO2:=(by exact hO2.q hx10 (by intro x hx;simp at hx;left;omega));have hG:=hG.q hx10 (by intro x hx;have h1:=hbL x hx;simp;omega);refine Qc (C8 (S:=F7 A2) 10 [(0,0),(0,1),(0,2),(0,3),(0,4),(0,5),(0,6),(1,7),(1,8),(1,9),(2,10),(2,11),(2,12)] mo (by kernel_rfl) ?_);intro w11 hx11 hh11;have hW:=hW.u hx11;have hB4:=hB4.u hx11;have hO2:=hO2.u hx11;have hG:=hG.u hx11;have hCS11:=A8 (F7 A2) w11;have hGA2:=hG.off hO2 (by decide);refine Z 3 J (Fa Ed8 J (D6 J (B3 o25 J ‹_› (by intro h;have:=hQb _ h;omega) (by rfl)) ?_));refine Z 2 J (C5 J (C3 fb67 J) (Be6 _ pw k q i hin _ (by omega) hW (fun b h=>by have:=hF b h;omega)) ?_);rintro v12 w12 ⟨hx12,br,rfl,hbr,hBr⟩;have hCS11:=hCS11.s0 hx12;refine ⟨hCS11,?_⟩
   try have hlBr:=hBr.lt
   refine E2 J (B7 Cr6 Tryz.underlying25 zr24 J J J (by rfl)) ?_;intro b13 w13 hb13 hs13 hx13 hB13;have hC:=hC.step (((hx10.j hx11).j hx12).j hx13) (by simp<;>omega);have hW:=hW.u (hx12.s0 hx13);have hB4:=hB4.u (hx12.s0 hx13);have hO:=hO.u ((hx11.s0 hx12).s0 hx13);have hO2:=hO2.u (hx12.s0 hx13);have hG:=hG.u (hx12.s0 hx13);have hBf:=hBf.q (((hx10.j hx11).j hx12).j hx13) (by simp<;>omega);have hBl:=hBl.q (((hx10.j hx11).j hx12).j hx13) (by simp<;>omega);have hCS11:=hCS11.s0 hx13;have hBr:=hBr.u hx13;refine ⟨hCS11,?_⟩;refine Ab7 J el25 J J hO2 (Blk.rd (F:=fun _=>True) ‹_› J trivial) (by rfl) (by omega) (by omega) ?_;intro A2' c2' w14 hO14 hx14 hA2';have hC:=hC.step hx14 (by intro x h;have:=hQb x h;exact .inr (by omega));have hW:=hW.q hx14 (by intro x hx hf;have:=hQb x hx;have h1:=hf.1;have h2:=hf.2.1;omega);have hB4:=hB4.q hx14 (by intro h;have:=hQb _ h;omega);have hO:=(by exact hO.keep hx14 ‹_›);have hG:=hG.q hx14 ‹_›;have hBf:=hBf.q hx14 (by intro h;have:=hQb _ h;omega);have hBl:=hBl.q hx14 (by intro h;have:=hQb _ h;omega);have hCS11:=hCS11.step hx14 (by exact fun x h=>.inl h);have hBr:=hBr.q hx14 (by intro h;have:=hQb _ h;omega)
   replace hO2:=hO14
   refine ⟨hCS11,?_⟩;refine Z 1 J (Fa Ed8 J (Pe sz25 J ‹_› J J ?_));intro w15 hs15 hx15 hB4;have hC:=hC.step hx15 (by simp;omega);have hW:=hW.q hx15 (by intro b hb hFb;have:=hF _ hFb;simp at hb;omega);have hO:=(by exact hO.q hx15 (by intro x hx;simp at hx;left;omega));have hO2:=(by exact hO2.q hx15 (by intro x hx;simp at hx;left;omega));have hG:=hG.q hx15 (by intro x hx;have h1:=hbL x hx;simp;omega);have hBf:=hBf.q hx15 (by simp;omega);have hBl:=hBl.q hx15 (by simp;omega);have hBr:=hBr.q hx15 (by simp;omega);refine Qc (Qb (Ad J J (by omega) (Zc 1 J ⟨(i+1,A',c',A2',c2',gs++[br]),sb J,?_,?_⟩)));have hgd:q.G.getD i Q6=q.G.getD gs.length Q6:=by rw [hgl]
   rw [hgd] at hBr;refine ⟨hC,hW,hB4,?_,?_,hG.snoc (by omega) hBr,by simp [hgl],hin,hBf,hBl⟩;rw [show q.S.take (i+1)=q.S.take i++[q.S.getD i 0] from by rw [Ep9,Ek4 hin,Ek2,Ek4 hin];rfl,U6];exact hO;unfold Am8;rw [Eo8];exact hO2;show q.S.length - (i+1)<q.S.length - i;omega
  ·try simp at h2
   have hkk:i=q.S.length:=by omega
   subst hkk;rw [En0 (El1 _)] at hO;refine Xb (Qd (Zc 3 J (A6 (J1 J J J ?_))));refine ⟨hC,fun h=>by omega,fun _=>⟨b4,rfl,pw,A,c,bf,bl,A2,c2,gs,hB4,⟨by omega,by omega,by simp⟩,hW.mono (fun y hy _=>⟨hy.1,by have:=hy.2.1;omega,by simp⟩),hO.rd (fun x h1 h2=>⟨by omega,h2,by simp⟩),hBf,⟨by omega,by omega,by simp⟩,hBl,⟨by omega,by omega,by simp⟩,hO2.rd (fun x h1 h2=>⟨by omega,h2,by simp⟩),hG.low (El0 _),fun x hx=>⟨by have:=(hG.mem hx).1;omega,by obtain ⟨_,cs,hb⟩:=hG.mem hx;exact hb.lt,by simp⟩,hgl⟩⟩
section
section
variable {P:Program} {n:Nat} {ops:Array Oper} {S:World→Prop} {N:Env→World→Prop} {B:Nat→Env→World→Prop} {R:Env→World→Prop} {e:Env} {w:World}
variable {rest:List (Nat × Oper)} {d:Nat} {op:Op} {t:TypeId} {p:String} {af:Array Edge} {dst:Option Tmp} {g:Option (Nat × Bool)}
theorem take_set {α:Type} (l:List α) (m i:Nat) (v:α):(l.set i v).take m=(l.take m).set i v:=by
 apply Em4;intro j;simp only [List.getElem?_take,En1,Et5]
 by_cases h1:j<m
 ·rw [Ek1 h1,Ek1 h1]
  by_cases h2:i=j
  ·subst h2;rw [Ek1 J,Ek1 J]
   by_cases h3:i<l.length
   ·rw [Ek1 h3,Ek1 (by omega)]
   ·rw [Ek0 h3,Ek0 (by omega)]
  ·rw [Ek0 h2,Ek0 h2]
 ·rw [Ek0 h1,Ek0 h1]
  by_cases h2:i=j
  ·rw [Ek1 h2,Ek0 (by omega)]
  ·rw [Ek0 h2]
theorem Z9 {α:Type} (l:List α) (i:Nat) (v:α) (h:i<l.length):l.take i++[v]++l.drop (i+1)=l.set i v:=by
 rw [Eq0,Ek1 h];simp
theorem own_put {lo:Nat} {el:TypeId} {m c i:Nat} {A:Option Addr} {cs:List Value} {v:Value} (h:Own w lo el 1 A m c cs) (hi:i<m) (h1:v.oneCell'=true):
  ∃ b w',A=some ⟨b,0,none⟩∧(storeCells ⟨b,i,none⟩ [v]).run P w= .ok () w'∧w'.heap.size=w.heap.size∧Chg (F7 A) w w'∧Own w' lo el 1 A m c (cs.set i v):=by
 obtain ⟨hl,h⟩:=h
 rcases h with ⟨hA,h2⟩|⟨b,cap,cur,hA,hb,hh,h2,h3,h4,h5⟩
 ·omega
 ·cases hA
  have hcl:i<cur.toList.length:=by simp;omega
  obtain ⟨w',hr,h6,h7,h8⟩:=Eh0 (P:=P) (w:=w) (b:=b) (cs:=cur.toList) (τ:=el) (by simpa [Blk] using hh) (o:=i) (vs:=[v]) (by simp at hcl ⊢;omega) (by simpa using h1)
  refine ⟨b,w',rfl,hr,h7,by simpa [F7] using h6,by simpa using hl,.inr ⟨b,c,_,rfl,hb,h8,h2,h3,?_,?_⟩⟩
  ·simp;simp at hcl;omega
  ·rw [Ep0,Z9 _ _ _ hcl,List.toList_toArray,take_set,h5]
theorem EP.own2 {τ:TypeId} {x y:Operand} {lo:Nat} {el:TypeId} {m c i:Nat} {A:Option Addr} {b o:Nat} {cs:List Value} {v:Value} (hs:szB P τ 1=true) (hx:ev e x=some (.pointer (some ⟨b,o,none⟩))) (hy:ev e y=some v) (hA:A=some ⟨b,0,none⟩) (ho:o=i) (h:Own w lo el 1 A m c cs) (hi:i<m) (hv:v.cells= #[v]) (h1:v.oneCell'=true)
  (hn:∀ w',w'.heap.size=w.heap.size→Chg (F7 A) w w'→Own w' lo el 1 A m c (cs.set i v)→EP P n ops S N B R rest e w'):EP P n ops S N B R ((2,⟨none,.store τ x y,t,p,af,none⟩)::rest) e w:=by
 obtain ⟨b',w',hA',hr,h3,h4,h5⟩:=own_put (P:=P) h hi h1;rw [hA] at hA';injection hA' with hA'
 injection hA' with hb'
 subst hb' ho;refine EP.s2 (fun a ha=>?_) (hn w' h3 h4 h5);simp [execOp,ha.ev hx,ha.ev hy,Instr.storeAt,Instr.sureAddr,storeVar,Bs0 hs,hv,hr]
end
def P3 (l:List Nat):List Value:=l.map fun i=>.int .i64 ((i:Nat):Int)
theorem Y5 (l:List Nat):(P3 l).length=l.length:=by simp [P3]
theorem Y6 (l:List Nat) (k:Nat) (h:k<l.length):(P3 l)[k]?=some (.int .i64 ((l.getD k 0:Nat):Int)):=by simp [P3,Ek4 h,Ek2]
theorem ints_one (l:List Int):(I8 l).all Value.oneCell'=true:=by
 induction l with
 |nil=>rfl
 |cons b r ih=>simp only [I8,En3,List.all_cons,Ek6] at*;exact ⟨rfl,ih⟩
def Bl5 (S:List Nat) (v:List Int) (b i:Nat):List Int:=v.mapIdx fun j x=>if j<i∧(S.getD j 0).testBit b=false then 0 else x
def Ay5 (S:List Nat) (v:List Int) (b:Nat):List Int:=v.mapIdx fun j x=>if (S.getD j 0).testBit b=false then 0 else x
theorem Dn6 (S:List Nat) (v:List Int) (b:Nat):Bl5 S v b 0=v:=by
 apply Em4;intro j;simp [Bl5]
theorem Dn7 (S:List Nat) (v:List Int) (b i:Nat) (h:v.length≤i):Bl5 S v b i=Ay5 S v b:=by
 apply Em4;intro j;simp only [Bl5,Ay5,Ep2]
 cases hj:v[j]? with
 |none=>rfl
 |some x=>
  have:=(Em5.1 hj).1;simp only [En4]
  by_cases h2:(S.getD j 0).testBit b=false
  ·rw [Ek1 ⟨by omega,h2⟩,Ek1 h2]
  ·rw [Ek0 (fun h3=>h2 h3.2),Ek0 h2]
theorem Eb4 (S:List Nat) (v:List Int) (b i:Nat) (hb:(S.getD i 0).testBit b=false):I8 (Bl5 S v b (i+1))=(I8 (Bl5 S v b i)).set i (.int .i64 0):=by
 apply Em4;intro j;simp only [I8,Bl5,El8,Ep2,En1,Eo2,List.length_mapIdx]
 by_cases hij:i=j
 ·subst hij;rw [Ek1 J]
  by_cases hl:i<v.length
  ·rw [Ek1 hl,Ek4 hl];simp only [En4];rw [Ek1 ⟨by omega,hb⟩]
  ·rw [Ek0 hl,El5 (by omega)];rfl
 ·rw [Ek0 hij]
  cases v[j]? with
  |none=>rfl
  |some x=>
   simp only [En4]
   by_cases h2:j<i
   ·by_cases h3:(S.getD j 0).testBit b=false
    ·rw [Ek1 ⟨by omega,h3⟩,Ek1 ⟨h2,h3⟩]
    ·rw [Ek0 (fun h=>h3 h.2),Ek0 (fun h=>h3 h.2)]
   ·rw [Ek0 (fun h=>by omega),Ek0 (fun h=>h2 h.1)]
theorem keptU_in (S:List Nat) (v:List Int) (b i:Nat) (hb:(S.getD i 0).testBit b=true):Bl5 S v b (i+1)=Bl5 S v b i:=by
 apply Em4;intro j;simp only [Bl5,Ep2]
 cases v[j]? with
 |none=>rfl
 |some x=>
  simp only [En4]
  by_cases hij:j=i
  ·subst hij;rw [Ek0 (fun h=>by rw [hb] at h;exact absurd h.2 (by simp)),Ek0 (fun h=>by omega)]
  ·by_cases h2:j<i
   ·by_cases h3:(S.getD j 0).testBit b=false
    ·rw [Ek1 ⟨by omega,h3⟩,Ek1 ⟨h2,h3⟩]
    ·rw [Ek0 (fun h=>h3 h.2),Ek0 (fun h=>h3 h.2)]
   ·rw [Ek0 (fun h=>by omega),Ek0 (fun h=>h2 h.1)]
def Bf5 (v:List Int):List Nat:=(List.range v.length).filter fun i=>decide (0<v.getD i 0)
def Ba9 (v:List Int) (k:Nat):List Nat:=(List.range k).filter fun i=>decide (0<v.getD i 0)
theorem Br9 (v:List Int) (k:Nat):Ba9 v (k+1)=if 0<v.getD k 0 then Ba9 v k++[k] else Ba9 v k:=by
 unfold Ba9;rw [Ep7,Eq5]
 split
 ·rename_i h;simp only [Et4,h,decide_true,if_true,List.filter_nil]
 ·rename_i h;simp only [Et4,h,decide_false,Er7,if_false,List.filter_nil,Ep1]
theorem someU_le (v:List Int) (k:Nat):(Ba9 v k).length≤k:=by
 have:=Es9 (fun i=>decide (0<v.getD i 0)) (List.range k)
 simpa [Ba9] using this
end
theorem kept_c (F:Nat→Prop) (pa:Nat) (k:Kn) (q:Wst) (v:List Int) (b:Nat) (A:Option Addr) (c lo:Nat) (w:World) (hb:b<256) (hn:q.S.length≤1000000) (hv:v.length=q.S.length) (hW:IsAut F w pa k q) (hF:∀ x,F x→x<lo) (hO:Own w lo 3 1 A q.S.length c (I8 v)):
  Calls P 192 #[.pointer (some ⟨pa,0,none⟩),.slice A q.S.length c,.int .u8 b] w (Ret fun u w'=>u= .slice A q.S.length c∧Chg (F7 A) w w'∧Own w' lo 3 1 A q.S.length c (I8 (Ay5 q.S v b))):=by
 have hC:=A8 (F7 A) w;obtain ⟨pw,As,cs,bf,bl,A2,c2,gs,h⟩:=hW;have hB0:=h.blk;have hR:=h.rs;have hFp:=hF _ h.fp;have hOb0:=hO.blk
 try have hlR:=hR.lt
 refine D4 Tryz.func192 J J (Qd (Zc 1 J (Qa (Qd (Z 1 J (Ln Tryz.underlying24 J (Zc 1 J (B2 (D8 (σ:=Nat) (fun i=>[(0,.pointer (some ⟨pa,0,none⟩)),(1,.slice A q.S.length c),(2,.int .u8 b),(9,.int .i64 (q.S.length:Nat)),(10,.int .i64 i)]) (fun i wr=>Chg (F7 A) w wr∧Blk wr pa [.pointer (some ⟨pw,0,none⟩),.slice As q.S.length cs,.slice (some ⟨bf,0,none⟩) q.S.length q.S.length,.slice (some ⟨bl,0,none⟩) q.S.length q.S.length,.slice A2 q.S.length c2] 120∧Rd F wr 4 As q.S.length (F5 q.S)∧Own wr lo 3 1 A q.S.length c (I8 (Bl5 q.S v b i))∧i≤q.S.length) (fun i wr=>q.S.length - i) 0 (sb J) ?_ ?_)))))))))
 ·exact ⟨hC,hB0,hR,by rw [Dn6];exact hO,El0 _⟩
 rintro i w9 ⟨hC,hB0,hR,hO,hi⟩;have hOb:=hO.blk
 try have hlR:=hR.lt
 refine Qd (Zc 1 J (Qa (A4 J (fun h1=>?_) (fun h1=>?_))))
 ·try simp at h1
  have hin:i<q.S.length:=by omega
  obtain ⟨g,off,hAs,_,hgl,hc⟩:=hR.at_ (by omega);subst hAs;refine A7 (Qa (B2 (Qd (Zc 2 J (Qd (Z 2 J (Fa Cd9 J (Lb o23 J ‹_› (by rfl) ?_))))))));refine Z 1 J (C9 J (C2 Ar5 J J (by omega) (by omega)) (C9 J (E8 (vs:=(C4 (q.S.getD i 0))) J0 J (F4 _) (fun j v hj=>by have hj4:j<4:=(Em5.1 hj).1;rw [Em3];exact hc _ v (by rw [show (((i:Nat):Int)).toNat=i from by omega,O2 _ _ _ hin hj4];exact hj)) J) ?_));refine Z 1 J (Ca fb137 J (has_c (q.S.getD i 0) b hb _) ?_);rintro _ w1 ⟨rfl,hx1⟩;have hC:=hC.s0 hx1;have hB0:=hB0.u hx1;have hR:=hR.u hx1;have hO:=hO.u hx1
  refine Zc 1 J (A4 J (fun h2=>?_) (fun h2=>?_))
  ·try simp at h2
   obtain ⟨gA,curA,hA,_⟩:∃ gA cur,A=some ⟨gA,0,none⟩∧Blk w1 gA cur 3:=by
    rcases hO.form with ⟨_,h0⟩|⟨gA,cur,h1,_,h2,_⟩
    ·omega
    ·exact ⟨gA,cur,h1,h2⟩
   subst hA;refine Qb (Z 2 J (C9 J (B0 T8 J J (by omega) (by omega)) (EP.own2 sz3 J J J J hO (by omega) J J ?_)));intro w2 hs2 hx2 hO2;have hC:=hC.step hx2 (by exact fun x h=>.inl h);have hB0:=hB0.q hx2 (by intro h;have:=hOb _ h;omega);have hR:=hR.q hx2 (by intro x hx hf;have:=hOb x hx;have:=hF x hf;omega)
   replace hO:=hO2
   refine Qc (Qb (Ad J J (by omega) (Zc 1 J ⟨i+1,sb J,?_,?_⟩)));exact ⟨hC,hB0,hR,by rw [Eb4 _ _ _ _ h2];simpa using hO,hin⟩;omega
  ·try simp at h2
   refine A7 (Qb (Ad J J (by omega) (Zc 1 J ⟨i+1,sb J,?_,?_⟩)));exact ⟨hC,hB0,hR,by rw [keptU_in _ _ _ _ h2];exact hO,hin⟩;omega
 ·try simp at h1
  have hkk:i=q.S.length:=by omega
  subst hkk;rw [Dn7 _ _ _ _ (by omega)] at hO;exact Xb (Qd (Zc 2 J (A6 (B4 J J ⟨rfl,hC,hO⟩))))
theorem Cz5 (F:Nat→Prop) (pa:Nat) (k:Kn) (q:Wst) (b:Nat) (w:World) (hb:b<256) (hn:q.S.length≤1000000) (hW:IsAut F w pa k q) (hF:∀ x,F x→x<w.heap.size):
  Calls P 165 #[.pointer (some ⟨pa,0,none⟩),.int .u8 b] w (Ret fun u w'=>Chg [] w w'∧∃ A c,u= .slice A q.S.length c∧Own w' w.heap.size 3 1 A q.S.length c (I8 (Ay5 q.S (Z2 k.first q.S.length) b))):=by
 have hC:=A8 [] w;obtain ⟨pw,As,cs,bf,bl,A2,c2,gs,h⟩:=hW;have hW:IsAut F w pa k q:=⟨pw,As,cs,bf,bl,A2,c2,gs,h⟩;have hB0:=h.blk;have hBf:=h.first
 have hrl:=O3 k.first q.S.length
 have hrd:=hBf.rd (F:=fun _=>True) (sz:=1) (m:=q.S.length) (by rw [G0,hrl,En8]) trivial;have hO:=Own.nil w w.heap.size 3 1
 refine D4 Tryz.func165 J J (Qd (Zc 1 J (Qa (Qd (Z 1 J (C9 J (I0 Tryz.underlying22 J J) (Qc (A4 J (fun h0=>?_) (fun h0=>?_)))))))))
 ·try simp at h0
  all_goals cases h0
 ·try simp at h0
  refine A7 (Qd (Z 3 J (Fa fl120_2 J (Lb o24 J ‹_› (by rfl) ?_))));refine G1 J Dg6 J J hO (hrd) (by exact ints_one _) (by omega) (El1 _) ?_;intro A' c' w1 hO1 hx1 hA';have hC:=hC.s0 hx1;have hW:=hW.u hx1
  replace hO:=hO1
  rw [El6,Ek8] at hO;rw [El6 q.S.length];have hOb:=hO.blk;refine Z 1 J (Ca fb192 J (kept_c F pa k q (Z2 k.first q.S.length) b A' c' w.heap.size _ hb hn hrl hW hF hO) ?_);rintro v9 w2 ⟨rfl,hxk,hOk⟩;have hC:=hC.step hxk (by intro x h;have:=hOb x h;exact .inr (by omega));exact Zc 1 J (A6 (B4 J J ⟨hC,A',c',rfl,hOk⟩))
theorem Cl1 (l:List Nat) (k:Nat):P3 (l++[k])=P3 l++[.int .i64 ((k:Nat):Int)]:=by simp [P3]
theorem some_c (v:List Int) (F:Nat→Prop) (A:Option Addr) (c:Nat) (w:World) (hn:v.length≤1000000) (hF:∀ x,F x→x<w.heap.size) (hr:Rd F w 1 A v.length (I8 v)):
  Calls P 141 #[.slice A v.length c] w (Ret fun u w'=>Chg [] w w'∧∃ A' c',u= .slice A' (Bf5 v).length c'∧Own w' w.heap.size 3 1 A' (Bf5 v).length c' (P3 (Bf5 v))):=by
 have hC:=A8 [] w
 refine D4 Tryz.func141 J J (Qd (Zc 1 J (Qd (Zc 1 J (Qa (Qd (Z 1 J (Ln Tryz.underlying24 J (Zc 1 J (B2 (D8 (σ:=Nat × Option Addr × Nat) (fun (i,A',c')=>[(3,.slice A' (Ba9 v i).length c'),(6,.slice A v.length c),(7,.int .i64 (v.length:Nat)),(8,.int .i64 i)]) (fun (i,A',c') wr=>Chg [] w wr∧Rd F wr 1 A v.length (I8 v)∧Own wr w.heap.size 3 1 A' (Ba9 v i).length c' (P3 (Ba9 v i))∧i≤v.length) (fun (i,A',c') wr=>v.length - i) (0,none,0) (sb J) ?_ ?_)))))))))))
 ·exact ⟨hC,hr,Own.nil _ _ _ _,El0 _⟩
 rintro ⟨i,A',c'⟩ w9 ⟨hC,hr,hO,hi⟩;have hOb:=hO.blk;have hul:=someU_le v i
 try have hzw:=hC.size
 refine Qd (Zc 1 J (Qa (A4 J (fun h1=>?_) (fun h1=>?_))))
 ·try simp at h1
  have hin:i<v.length:=by omega
  have hcell:=(show ∃ g off,A=some ⟨g,off,none⟩ from by obtain ⟨g,off,h,_⟩:=hr.at_ (by omega);exact ⟨g,off,h⟩);obtain ⟨g,off,rfl⟩:=hcell
  refine A7 (Qa (B2 (Qd (Z 1 J (C9 J (B0 T8 J J (by omega) (by omega)) (Lc o3 J (hr.one (J6 v i hin)).2 (Zc 2 J (Qd (Zc 2 J (A4 J (fun h2=>?_) (fun h2=>?_)))))))))))
  ·try simp at h2
   refine Qb (Z 2 J (B5 J (B7 T8 Tryz.underlying24 zr3 J J J (by rfl)) ?_));intro b1 w1 hb1 hs1 hx1 hB1;have hC:=hC.s0 hx1;have hr:=hr.u hx1;have hO:=hO.u hx1;refine G1 J Dg6 J J hO (Blk.rd (F:=fun _=>True) ‹_› J trivial) (by rfl) (by omega) (by omega) ?_;intro AN' cN' w2 hO2 hx2 hAN';have hC:=hC.step hx2 (by intro x h;have:=hOb x h;exact .inr (by omega));have hr:=hr.q hx2 (by intro x hx hf;have:=hOb x hx;have:=hF x hf;omega)
   replace hO:=hO2
   have hs:Ba9 v (i+1)=Ba9 v i++[i]:=by rw [Br9,Ek1 (by simpa using h2)]
   refine Zc 1 J (Qb (Ad J J (by omega) (Zc 1 J ⟨(i+1,AN',cN'),⟨(R0 J (by rw [hs,Ek5];rfl)),rfl,rfl,rfl,trivial⟩,?_,?_⟩)));refine ⟨hC,hr,?_,hin⟩;rw [hs,Cl1,Ek5];exact hO;show v.length - (i+1)<v.length - i;omega
  ·try simp at h2
   have hs:Ba9 v (i+1)=Ba9 v i:=by rw [Br9,Ek0 (by simpa using h2)]
   refine A7 (Qb (Ad J J (by omega) (Zc 1 J ⟨(i+1,A',c'),⟨(R0 J (by rw [hs])),rfl,rfl,rfl,trivial⟩,?_,?_⟩)));refine ⟨hC,hr,?_,hin⟩;rw [hs];exact hO;show v.length - (i+1)<v.length - i;omega
 ·try simp at h1
  have hkk:i=v.length:=by omega
  subst hkk;exact Xb (Qd (Zc 2 J (A6 (B4 J J ⟨hC,A',c',rfl,hO⟩))))
def W9 (k:Kn) (q:Wst) (b:Nat):List Nat:=Bf5 (Ay5 q.S (Z2 k.first q.S.length) b)
theorem Bl6 (S:List Nat) (v:List Int) (b:Nat):(Ay5 S v b).length=v.length:=by simp [Ay5]
theorem begin_c (F:Nat→Prop) (pa:Nat) (k:Kn) (q:Wst) (b:Nat) (w:World) (hb:b<256) (hn:q.S.length≤1000000) (hW:IsAut F w pa k q) (hF:∀ x,F x→x<w.heap.size):
  Calls P 140 #[.pointer (some ⟨pa,0,none⟩),.int .u8 b] w (Ret fun u w'=>Chg [] w w'∧∃ A' c',u= .slice A' (W9 k q b).length c'∧Own w' w.heap.size 3 1 A' (W9 k q b).length c' (P3 (W9 k q b))):=by
 have hC:=A8 [] w;refine D4 Tryz.func140 J J (Qd (Zc 1 J (Qd (Z 2 J (Ca fb165 J (Cz5 F pa k q b _ hb hn hW hF) ?_)))));rintro v9 w1 ⟨hx1,A,c,rfl,hO⟩;have hz1:=hx1.size;have hkl:(Ay5 q.S (Z2 k.first q.S.length) b).length=q.S.length:=by rw [Bl6,O3]
 have hrd:=hO.rd (F:=fun x=>x<w1.heap.size) (fun x _ h=>h);refine Ca fb141 J ((show Calls P 141 #[.slice A q.S.length c] _ _ from hkl ▸ some_c (Ay5 q.S (Z2 k.first q.S.length) b) (fun x=>x<w1.heap.size) A c _ (by omega) (fun x h=>h) (hkl.symm ▸ hrd))) ?_;rintro v8 w2 ⟨hx2,A',c',rfl,hO2⟩;have hC:=hC.s0 (hx1.s0 hx2);exact Zc 1 J (A6 (B4 J J ⟨hC,A',c',rfl,hO2.lower (by omega)⟩))
theorem ends1_c (f:BagF) (n p bq bv:Nat) (w:World) (hn:n≤1000000) (hB0:Blk w bq [.slice (some ⟨bv,0,none⟩) n n] 24) (hB1:Blk w bv (I8 (Z2 f n)) 3):
  Calls P 107 #[.int .i64 (p:Nat),.pointer (some ⟨bq,0,none⟩)] w (Ret fun u w'=>u= .bool (decide (p<n) && decide (0<f p))∧Chg [] w w'):=by
 have hC:=A8 [] w
 refine D4 Tryz.func107 J J (Qd (Zc 1 J (Qd (Z 3 J (C0 (d:=6) J (fun h1=>?_) (fun h1=>?_))))))
 ·try simp at h1
  refine Qu J (Z 1 J (Qu J (Lb o24 J ‹_› (by rfl) ?_)))
  refine Qu J (Ln Tryz.underlying24 J (Qu J (Z 3 J (C0 (d:=12) J (fun h2=>?_) (fun h2=>?_)))))
  ·try simp at h2
   have hpn:p<n:=by omega
   have hrd:=hB1.rd (F:=fun _=>True) (sz:=1) (m:=n) (by rw [G0,O3,En8]) trivial;have hcell:=(hrd.one (J6 (Z2 f n) p (by rw [O3];exact hpn))).2;refine Qu J (Lb o24 J ‹_› (by rfl) ?_);refine Qu J (Z 1 J (Qu J (C9 J (B0 T8 J J (by omega) (by omega)) (Qu J (Lc o3 J hcell (Qu J (Zc 3 J (A6 (B4 J J ?_)))))))));have hfp:(Z2 f n).getD p 0=f p:=by simp [Z2,Ek2,hpn]
   exact ⟨H5 (by rw [hfp,El4,cmpB_gtr];simp [hpn]),hC⟩
  ·try simp at h2
   exact Qk J (Qk J (Qk J (Qk J (Qk J (Zc 2 J (A6 (B4 J J ⟨H5 (by rw [El4];simp;omega),hC⟩)))))))
 ·try simp at h1
  exact Qk J (Qk J (Qk J (Qk J (Z 2 J (Qk J (Qk J (Qk J (Qk J (Qk J (Zc 2 J (A6 (B4 J J ⟨H5 (by rw [El4];simp;omega),hC⟩))))))))))))
def Cy0 (k:Kn) (q:Wst) (l:List Nat):Bool:=l.any fun p=>decide (p<q.S.length) && decide (0<k.last p)
theorem Ee6 (F F2:Nat→Prop) (pa:Nat) (k:Kn) (q:Wst) (l:List Nat) (A:Option Addr) (c:Nat) (w:World) (hn:q.S.length≤1000000) (hl:l.length≤1000000) (hW:IsAut F w pa k q) (hF:∀ x,F x→x<w.heap.size) (hr:Rd F2 w 1 A l.length (P3 l)) (hF2:∀ x,F2 x→x<w.heap.size):
  Calls P 79 #[.pointer (some ⟨pa,0,none⟩),.slice A l.length c] w (Ret fun u w'=>u= .bool (Cy0 k q l)∧Chg [] w w'):=by
 have hC:=A8 [] w;obtain ⟨pw,As,cs,bf,bl,A2,c2,gs,h⟩:=hW;have hB0:=h.blk;have hWei:=h.wei
 refine D4 Tryz.func79 J J (Qd (Zc 1 J (Qa (Qd (Z 1 J (C9 J (I0 Tryz.underlying22 J J) (Qc (A4 J (fun h0=>?_) (fun h0=>?_)))))))))
 ·try simp at h0
  all_goals cases h0
 ·try simp at h0
  refine A7 (Qd (Z 2 J (Fa Bm5 J (Lb o115 J ‹_› (by rfl) ?_))));refine Ca fb64 J (Bu6 F pw k q _ hn hWei hF) ?_;rintro v9 w1 ⟨hx1,bv,rfl,hbv,hBv⟩;have hz1:=hx1.size;have hF:=hF2
  try have hlBv:=hBv.lt
  refine B5 J (B8 zr24 J) ?_;intro b2 w2 hb2 hs2 hx2 hB2;have hr:=hr.u (hx1.s0 hx2);refine Pe sz24 J ‹_› J J ?_;intro w3 hs3 hx3 hB2;have hr:=hr.q hx3 (by intro b hb hFb;have:=hF _ hFb;simp at hb;omega);have hBv:=hBv.q (hx2.j hx3) (by simp<;>omega);refine Qc (Qd (Z 1 J (C9 J (Ab4 (fun a ha=>U7 ha J) (fun a ha=>U7 ha J)) (Ca fb81 J (anyI_c 107 #[] #[.pointer (some ⟨b2,0,none⟩)] fb107 (P3 l) (fun i=>decide (l.getD i 0<q.S.length) && decide (0<k.last (l.getD i 0))) F2 A l.length c _ (by omega) (fun x h=>by have:=hF2 x h;omega) hr (fun i v w' hi hv hw=>by rw [Y6 l i hi] at hv;cases hv;exact ends1_c k.last q.S.length (l.getD i 0) b2 bv w' hn (Blk.u ‹_› hw) (Blk.u ‹_› hw))) ?_))));rintro _ w4 ⟨rfl,hx4⟩;have hC:=hC.step (((hx1.j hx2).j hx3).j hx4) (by simp<;>omega);refine Zc 1 J (A6 (B4 J J ⟨H5 ?_,hC⟩));unfold Cy0;rw [El4,Er1,Er1]
  constructor
  ·rintro ⟨i,hi,h⟩;rw [Em9] at hi;exact ⟨l.getD i 0,G9 l 0 i hi,h⟩
  ·rintro ⟨p,hp,h⟩;obtain ⟨i,hi,rfl⟩:=Er2.1 hp;exact ⟨i,Em9.2 hi,by rw [Ek2,Ek4 hi];exact h⟩
def Cg8 (n:Nat) (ok:Nat→Bool):List Int:=(List.range n).map fun i=>if ok i then 1 else 0
theorem Cc0 (n:Nat) (ok:Nat→Bool):(Cg8 n ok).length=n:=by simp [Cg8]
theorem some_hit (n:Nat) (ok:Nat→Bool):Bf5 (Cg8 n ok)=(List.range n).filter ok:=by
 unfold Bf5;rw [Cc0];apply List.filter_congr;intro i hi;rw [Em9] at hi;simp only [Cg8,Ek2,El8,Em7 hi,En4,Eo1]
 cases ok i<;>simp
def goF (q:Wst) (p:Nat) (b:Nat) (i:Nat):Bool:=decide (0<(q.G.getD p Q6) i) && (q.S.getD i 0).testBit b
def Ar7 (q:Wst) (l:List Nat) (b:Nat):List Nat:=(List.range q.S.length).filter fun i=>l.any fun p=>goF q p b i
def okU (q:Wst) (l:List Nat) (b k:Nat) (i:Nat):Bool:=(l.take k).any fun p=>goF q p b i
def okV (q:Wst) (l:List Nat) (b k j:Nat) (i:Nat):Bool:=okU q l b k i||(decide (i<j) && goF q (l.getD k 0) b i)
theorem hit_set (n j:Nat) (ok ok':Nat→Bool) (h1:ok' j=true) (h2:∀ i,i≠j→ok' i=ok i):I8 (Cg8 n ok')=(I8 (Cg8 n ok)).set j (.int .i64 1):=by
 apply Em4;intro i;simp only [I8,Cg8,El8,En1,Eo2,Eq4]
 by_cases hi:i<n
 ·rw [Em7 hi];simp only [En4]
  by_cases hij:j=i
  ·subst hij;rw [Ek1 J,Ek1 hi,h1];rfl
  ·rw [Ek0 hij,h2 i (fun e=>hij e.symm)]
 ·rw [El5 (by simp;omega)];simp only [Option.map_none]
  split
  ·rw [Ek0 (by omega)]
  ·rfl
theorem okV_zero (q:Wst) (l:List Nat) (b k:Nat):okV q l b k 0=okU q l b k:=by funext i;simp [okV]
theorem okV_full (q:Wst) (l:List Nat) (b k:Nat) (hk:k<l.length):∀ i,i<q.S.length→okV q l b k q.S.length i=okU q l b (k+1) i:=by
 intro i hi;unfold okV okU;rw [Ep9,Ek4 hk,List.any_append];simp [hi,Ek2,Ek4 hk]
theorem Eb9 (n:Nat) (ok ok':Nat→Bool) (h:∀ i,i<n→ok i=ok' i):Cg8 n ok=Cg8 n ok':=by
 unfold Cg8;apply Eq3;intro i hi;rw [h i (Em9.1 hi)]
theorem Dx8 (q:Wst) (l:List Nat) (b k j:Nat) (h:goF q (l.getD k 0) b j=true):okV q l b k (j+1) j=true∧∀ i,i≠j→okV q l b k (j+1) i=okV q l b k j i:=by
 refine ⟨by unfold okV;rw [h];simp,fun i hi=>?_⟩;unfold okV;rw [show decide (i<j+1)=decide (i<j) from by rw [decide_eq_decide];omega]
theorem Dd2 (q:Wst) (l:List Nat) (b k j:Nat) (h:goF q (l.getD k 0) b j=false):okV q l b k (j+1)=okV q l b k j:=by
 funext i
 unfold okV
 by_cases hi:i=j
 ·subst hi;rw [h];simp
 ·rw [show decide (i<j+1)=decide (i<j) from by rw [decide_eq_decide];omega]
theorem Ax0 (f:BagF) (n i:Nat) (h:i<n):(Z2 f n).getD i 0=f i:=by simp [Z2,Ek2,h]
theorem some_n_c (v:List Int) (n:Nat) (hv:v.length=n) (F:Nat→Prop) (A:Option Addr) (c:Nat) (w:World) (hn:n≤1000000) (hF:∀ x,F x→x<w.heap.size) (hr:Rd F w 1 A n (I8 v)):
  Calls P 141 #[.slice A n c] w (Ret fun u w'=>Chg [] w w'∧∃ A' c',u= .slice A' (Bf5 v).length c'∧Own w' w.heap.size 3 1 A' (Bf5 v).length c' (P3 (Bf5 v))):=by
 subst hv;exact some_c v F A c w hn hF hr
theorem next_c (F F2:Nat→Prop) (pa:Nat) (k:Kn) (q:Wst) (l:List Nat) (b:Nat) (A:Option Addr) (c:Nat) (w:World) (hb:b<256) (hn:q.S.length≤1000000) (hl:l.length≤1000000) (hlv:∀ p∈l,p<q.S.length) (hW:IsAut F w pa k q) (hFw:∀ x,F x→x<w.heap.size) (hr:Rd F2 w 1 A l.length (P3 l)) (hF2:∀ x,F2 x→x<w.heap.size):
  Calls P 106 #[.pointer (some ⟨pa,0,none⟩),.slice A l.length c,.int .u8 b] w (Ret fun u w'=>Chg [] w w'∧∃ A' c',u= .slice A' (Ar7 q l b).length c'∧Own w' w.heap.size 3 1 A' (Ar7 q l b).length c' (P3 (Ar7 q l b))):=by
 have hC:=A8 [] w;obtain ⟨pw,As,cs,bf,bl,A2,c2,gs,h⟩:=hW;have hB0:=h.blk;have hWei:=h.wei;have hpa:=hB0.lt
 refine D4 Tryz.func106 J J (Qd (Zc 1 J (Qa (Qd (Z 1 J (C9 J (I0 Tryz.underlying22 J J) (Qc (A4 J (fun h0=>?_) (fun h0=>?_)))))))))
 ·try simp at h0
  all_goals cases h0
 ·try simp at h0
  refine A7 (Qd (Z 2 J (Fa Bm5 J (Lb o115 J ‹_› (by rfl) ?_))));refine Ca fb65 J (Bg4 F pw k q _ hWei) ?_;rintro _ w1 ⟨rfl,hx1⟩;have hz1:=hx1.size;refine B5 J (O7 Dg6 zr3 J (cs:=List.replicate q.S.length (.int .i64 0)) (by omega) (by omega) (by show (madeCells #[_] (((q.S.length:Nat):Int).toNat*1)).toList=_;rw [Ek9,En8];exact T4 _ _)) ?_;intro b2 w2 hb2 hs2 hx2 hB2;have hC:=hC.s0 (hx1.s0 hx2);have hB0:=hB0.u (hx1.s0 hx2);have hWei:=hWei.u (hx1.s0 hx2);have hr:=hr.u (hx1.s0 hx2)
  refine Zc 1 J (Qa (Qd (Z 1 J (Ln Tryz.underlying24 J (Zc 1 J (B2 (D8 (σ:=Nat) (fun i=>[(0,.pointer (some ⟨pa,0,none⟩)),(2,.int .u8 b),(7,.slice (some ⟨b2,0,none⟩) q.S.length q.S.length),(20,.slice A l.length c),(21,.int .i64 (l.length:Nat)),(22,.int .i64 i)]) (fun i wr=>Chg [] w wr∧Blk wr pa [.pointer (some ⟨pw,0,none⟩),.slice As q.S.length cs,.slice (some ⟨bf,0,none⟩) q.S.length q.S.length,.slice (some ⟨bl,0,none⟩) q.S.length q.S.length,.slice A2 q.S.length c2] 120∧IsWei F wr pw k q∧Rd F2 wr 1 A l.length (P3 l)∧Blk wr b2 (I8 (Cg8 q.S.length (okU q l b i))) 3∧i≤l.length) (fun i wr=>l.length - i) 0 (sb J) ?_ ?_)))))))
  ·refine ⟨hC,hB0,hWei,hr,?_,El0 _⟩
   have:I8 (Cg8 q.S.length (okU q l b 0))=List.replicate q.S.length (.int .i64 0):=by
    apply List.ext_getElem
    ·simp [I8,Cg8]
    ·intro i h1 h2;simp [I8,Cg8,okU]
   rw [this];exact hB2
  rintro i w9 ⟨hC,hB0,hWei,hr,hB2,hi⟩
  try have hzw:=hC.size
  try have hlB2:=hB2.lt
  refine Qd (Zc 1 J (Qa (A4 J (fun h1=>?_) (fun h1=>?_))))
  ·try simp at h1
   have hin:i<l.length:=by omega
   have hA:∃ g off,A=some ⟨g,off,none⟩:=by obtain ⟨g,off,h,_⟩:=hr.at_ (by omega);exact ⟨g,off,h⟩
   obtain ⟨g,off,rfl⟩:=hA;have hpv:=hlv _ (G9 l 0 i hin);refine A7 (Qa (B2 (Qd (C9 J (B0 T8 J J (by omega) (by omega)) (Lc o3 J (hr.one (Y6 l i hin)).2 (Zc 1 J (Qd (Z 2 J (Fa Bm5 J (Lb o115 J ‹_› (by rfl) ?_))))))))));refine Z 1 J (Ca fb67 J (Be6 F pw k q (l.getD i 0) hpv _ hn hWei (fun x h=>by have:=hFw x h;omega)) ?_);rintro v9 w3 ⟨hx3,br,rfl,hbr,hBr⟩;have hC:=hC.s0 hx3;have hB0:=hB0.u hx3;have hWei:=hWei.u hx3;have hr:=hr.u hx3;have hB2:=hB2.u hx3
   refine Ln Tryz.underlying24 J (Zc 1 J (B2 (D8 (σ:=Nat) (fun j=>[(0,.pointer (some ⟨pa,0,none⟩)),(2,.int .u8 b),(7,.slice (some ⟨b2,0,none⟩) q.S.length q.S.length),(31,.slice (some ⟨br,0,none⟩) q.S.length q.S.length),(32,.int .i64 (q.S.length:Nat)),(33,.int .i64 j),(20,.slice (some ⟨g,off,none⟩) l.length c),(21,.int .i64 (l.length:Nat)),(22,.int .i64 i)]) (fun j wr=>Chg [] w wr∧Blk wr pa [.pointer (some ⟨pw,0,none⟩),.slice As q.S.length cs,.slice (some ⟨bf,0,none⟩) q.S.length q.S.length,.slice (some ⟨bl,0,none⟩) q.S.length q.S.length,.slice A2 q.S.length c2] 120∧IsWei F wr pw k q∧Rd F2 wr 1 (some ⟨g,off,none⟩) l.length (P3 l)∧Blk wr b2 (I8 (Cg8 q.S.length (okV q l b i j))) 3∧Blk wr br (I8 (Z2 (q.G.getD (l.getD i 0) Q6) q.S.length)) 3∧j≤q.S.length) (fun j wr=>q.S.length - j) 0 (sb J) ?_ ?_)))
   ·exact ⟨hC,hB0,hWei,hr,by rw [okV_zero];exact hB2,hBr,El0 _⟩
   rintro j w8 ⟨hC,hB0,hWei,hr,hB2,hBr,hj⟩
   try have hlBr:=hBr.lt
   refine Qd (Zc 1 J (Qa (A4 J (fun h2=>?_) (fun h2=>?_))))
   ·try simp at h2
    have hjn:j<q.S.length:=by omega
    have hrd:=hBr.rd (F:=fun _=>True) (sz:=1) (m:=q.S.length) (by rw [G0,O3,En8]) trivial;have hcell:=(hrd.one (J6 (Z2 (q.G.getD (l.getD i 0) Q6) q.S.length) j (by rw [O3];exact hjn))).2;rw [Ax0 _ _ _ hjn] at hcell;have hl1:=Cc0 q.S.length (okV q l b i j);refine A7 (Qa (B2 (Qd (Z 1 J (C9 J (B0 T8 J J (by omega) (by omega)) (Lc o3 J hcell ?_))))));have hFn:∀ x∈[b2],¬ F x:=fun x hx h=>by have:=hFw x h;have:=Ek3.1 hx;omega
    have hFn2:∀ x∈[b2],¬ F2 x:=fun x hx h=>by have:=hF2 x h;have:=Ek3.1 hx;omega
    refine Zc 2 J (Qd (Z 3 J (C0 (d:=40) J (fun h3=>?_) (fun h3=>?_))))
    ·try simp at h3
     refine Qu J (Z 1 J (Qu J (Z 1 J (Qu J (Fa Bm5 J (Qu J (Lb o115 J ‹_› (by rfl) ?_)))))));refine Qu J (Z 1 J (Qu J (Ca fb66 J (wset_c F pw k q j hjn hn _ hWei (fun x h=>by have:=hFw x h;omega)) ?_)));rintro _ w4 ⟨rfl,hx4⟩;refine Qu J (Z 1 J (Qu J (Ca fb137 J (has_c (q.S.getD j 0) b hb _) ?_)));rintro _ w5 ⟨rfl,hx5⟩;have hC:=hC.s0 (hx4.s0 hx5);have hB0:=hB0.u (hx4.s0 hx5);have hWei:=hWei.u (hx4.s0 hx5);have hr:=hr.u (hx4.s0 hx5);have hB2:=hB2.u (hx4.s0 hx5);have hBr:=hBr.u (hx4.s0 hx5)
     refine Zc 1 J (A4 J (fun h4=>?_) (fun h4=>?_))
     ·try simp at h4
      have hgo:goF q (l.getD i 0) b j=true:=by unfold goF;simp;exact ⟨h3,h4⟩
      refine Qb (Z 2 J (C9 J (B0 T8 J J (by omega) (by omega)) (Pb (cs':=(I8 (Cg8 q.S.length (okV q l b i (j+1))))) sz3 J J hB2 J J J (by simp [I8,hl1];omega) (by rw [hit_set _ j _ _ (Dx8 q l b i j hgo).1 (Dx8 q l b i j hgo).2];simp [Eq0,I8,hl1];omega) ?_)));intro w6 hs6 hx6 hB2;have hC:=hC.step hx6 (by simp;omega);have hB0:=hB0.q hx6 (by simp;omega);have hWei:=hWei.q hx6 ‹_›;have hr:=hr.q hx6 ‹_›;have hBr:=hBr.q hx6 (by simp;omega);refine Qc (Qb (Ad J J (by omega) (Zc 1 J ⟨j+1,sb J,?_,?_⟩)));exact ⟨hC,hB0,hWei,hr,hB2,hBr,hjn⟩;omega
     ·try simp at h4
      have hgo:goF q (l.getD i 0) b j=false:=by unfold goF;simp [h4]
      refine A7 (Qb (Ad J J (by omega) (Zc 1 J ⟨j+1,sb J,?_,?_⟩)));exact ⟨hC,hB0,hWei,hr,by rw [Dd2 q l b i j hgo];exact hB2,hBr,hjn⟩;omega
    ·try simp at h3
     have hgo:goF q (l.getD i 0) b j=false:=by unfold goF;rw [show decide (0<q.G.getD (l.getD i 0) Q6 j)=false from by simpa using h3];rfl
     refine Qk J (Qk J (Qk J (Qk J (Qk J (Qk J (Qk J (Qk J (Zc 1 J (E4 J (A7 (Qb (Ad J J (by omega) (Zc 1 J ⟨j+1,sb J,?_,?_⟩)))))))))))));exact ⟨hC,hB0,hWei,hr,by rw [Dd2 q l b i j hgo];exact hB2,hBr,hjn⟩;omega
   ·try simp at h2
    have hjj:j=q.S.length:=by omega
    subst hjj;rw [Eb9 _ _ _ (okV_full q l b i hin)] at hB2;refine Xb (Qb (Ad J J (by omega) (Zc 1 J ⟨i+1,sb J,?_,?_⟩)));exact ⟨hC,hB0,hWei,hr,hB2,hin⟩;omega
  ·try simp at h1
   have hii:i=l.length:=by omega
   subst hii;have hlen:=Cc0 q.S.length (okU q l b l.length);have hrd:=hB2.rd (F:=fun x=>x<w9.heap.size) (sz:=1) (m:=q.S.length) (by rw [G0,hlen,En8]) hB2.lt;refine Xb (Qd (Z 1 J (Ca fb141 J (some_n_c (Cg8 q.S.length (okU q l b l.length)) _ hlen (fun x=>x<w9.heap.size) _ _ _ hn (fun x h=>h) hrd) ?_)));rintro v9 w7 ⟨hx7,A',c',hv,hO⟩;have hC:=hC.s0 hx7;refine Zc 1 J (A6 (B4 J J ?_))
   have hE:Bf5 (Cg8 q.S.length (okU q l b l.length))=Ar7 q l b:=by
    rw [some_hit];unfold Ar7 okU;rw [En0 (El1 _)]
   rw [hE] at hv hO;exact ⟨hC,A',c',hv,hO.lower (by omega)⟩
theorem alive_c (F:Nat→Prop) (pa:Nat) (k:Kn) (q:Wst) (s:ByteArray) (b:Nat) (w:World) (hs:B6 s=[b]) (hb:b<256) (hn:q.S.length≤1000000) (hW:IsAut F w pa k q) (hFw:∀ x,F x→x<w.heap.size):
  Calls P 105 #[.pointer (some ⟨pa,0,none⟩),.string s] w (Ret fun u w'=>Chg [] w w'∧∃ A' c',u= .slice A' (W9 k q b).length c'∧Own w' w.heap.size 3 1 A' (W9 k q b).length c' (P3 (W9 k q b))):=by
 have hC:=A8 [] w;have hsz:s.size=1:=by rw [← E5,hs];rfl
 refine D4 Tryz.func105 J J (Qd (Zc 1 J (Qd (Zc 1 J (Qa (Qd (Z 1 J (C9 J (E9 Tryz.underlying9 J) (Zc 1 J (B2 (D8 (σ:=Nat × Option Addr × Nat × List Nat) (fun (i,A,c,l)=>[(0,.pointer (some ⟨pa,0,none⟩)),(1,.string s),(5,.slice A l.length c),(8,.int .i64 (s.size:Nat)),(9,.int .i64 i)]) (fun (i,A,c,l) wr=>Chg [] w wr∧IsAut F wr pa k q∧Own wr w.heap.size 3 1 A l.length c (P3 l)∧i≤1∧(i=1→l=W9 k q b)) (fun (i,A,c,l) wr=>1 - i) (0,none,0,[]) (sb J) ?_ ?_)))))))))))
 ·exact ⟨hC,hW,Own.nil _ _ _ _,by omega,fun h=>by omega⟩
 rintro ⟨i,A,c,l⟩ w9 ⟨hC,hW,hO,hi,hl⟩
 try have hzw:=hC.size
 refine Qd (Zc 1 J (Qa (A4 J (fun h1=>?_) (fun h1=>?_))))
 ·try simp at h1
  have hi0:i=0:=by omega
  subst hi0
  refine A7 (Qa (B2 (Qd (Zc 2 J (Qd (Zc 2 J (A4 J (fun h2=>?_) (fun h2=>?_))))))))
  ·try simp at h2
   obtain ⟨u8,hu,hu2⟩:=I5 s 0 (by omega);rw [hs] at hu2;have hu3:b=u8.toNat:=hu2;refine Qb (Z 3 J (C9 J (Does.to (E7 Tryz.underlying9 J J (by omega) (by exact hu)) (J4 (show ((u8.toNat:Nat):Int)=(b:Nat) by rw [hu3]))) ?_));refine Ca fb140 J (begin_c F pa k q b _ hb hn hW (fun x h=>by have:=hFw x h;omega)) ?_;rintro v9 w1 ⟨hx1,A',c',rfl,hO2⟩;have hC:=hC.s0 hx1;have hW:=hW.u hx1;refine Zc 1 J (Qb (Ad J J (by omega) (Zc 1 J ⟨(1,A',c',W9 k q b),sb J,?_,?_⟩)));exact ⟨hC,hW,hO2.lower (by omega),El1 _,fun _=>rfl⟩;show 1 - 1<1 - 0;omega
  ·try simp at h2
   all_goals omega
 ·try simp at h1
  have hi1:i=1:=by omega
  have hl:=hl hi1;subst hl;exact Xb (Qd (Zc 2 J (A6 (B4 J J ⟨hC,A,c,rfl,hO⟩))))
def mk (a:Int × Bool):Value:=.agg #[.int .i64 a.1,.bool a.2]
theorem kn3':Ay4 P 3=true:=by kernel_rfl
theorem kn4':Ay4 P 4=true:=by kernel_rfl
theorem ag3':aggB P 3=false:=by kernel_rfl
theorem ag4':aggB P 4=false:=by kernel_rfl
theorem sh223:P.stoodInHeld 223=false:=by kernel_rfl
theorem part3 (cs:Array Value) (i:Nat) (v:Value) (h:cs[i]?=some v) (w:World):(part 3 cs i).run P w= .ok v w:=by simp [part,Ag1 kn3',ag3',h]
theorem part4 (cs:Array Value) (i:Nat) (v:Value) (h:cs[i]?=some v) (w:World):(part 4 cs i).run P w= .ok v w:=by simp [part,Ag1 kn4',ag4',h]
theorem eqmk (d:Nat) (a b:Int × Bool) (w:World):(Op.equalIn (d+2) 223 (mk a) (mk b)).run P w= .ok (decide (a=b)) w:=by
 have h3:∀ x y:Int,(Op.equalIn (d+1) 3 (.int .i64 x) (.int .i64 y)).run P w= .ok (x==y) w:=fun x y=>by simp [Op.equalIn,run_underlying Tryz.underlying3]
 have h4:∀ x y:Bool,(Op.equalIn (d+1) 4 (.bool x) (.bool y)).run P w= .ok (x==y) w:=fun x y=>by simp [Op.equalIn,run_underlying Tryz.underlying4]
 have p1:=fun a:Int × Bool=>part3 #[.int .i64 a.1,.bool a.2] 0 (.int .i64 a.1) J w
 have p2:=fun a:Int × Bool=>part4 #[.int .i64 a.1,.bool a.2] 1 (.bool a.2) J w
 unfold Op.equalIn mk;simp only [Sem.run_bind,run_underlying Tryz.underlying223,Result.andThen_ok,run_program,sh223];simp [p1,p2,h3,h4];obtain ⟨a1,a2⟩:=a;obtain ⟨c1,c2⟩:=b
 by_cases h1:a1=c1
 ·by_cases h2:a2=c2
  ·simp [h1,h2]
  ·simp [h1,h2]
 ·simp [h1]
theorem mk_law {d:TypeDesc} (hd:P.underlying 223=some d):KL P 223 mk where
 check:=fun e a w=>by
  unfold Instr.checkKey mk;simp only [Sem.run_bind,run_underlying Tryz.underlying223,Result.andThen_ok];have p1:=part3 #[.int .i64 a.1,.bool a.2] 0 (.int .i64 a.1) J w;have p2:=part4 #[.int .i64 a.1,.bool a.2] 1 (.bool a.2) J w;have c3:(Instr.checkKey e 9999 3 (.int .i64 a.1)).run P w= .ok () w:=by unfold Instr.checkKey;simp [run_underlying Tryz.underlying3]
  have c4:(Instr.checkKey e 9999 4 (.bool a.2)).run P w= .ok () w:=by unfold Instr.checkKey;simp [run_underlying Tryz.underlying4]
  simp [p1,p2,c3,c4]
 find:=fun a L es w h=>by
  have key:∀ (L:List ((Int × Bool) × Int)) (es:List MapEntry) (i:Nat),es.map (fun x=>(x.key,x.val))=kvs mk L→(Instr.findAsking 223 (mk a) es i).run P w= .ok ((asc L i a).map fun q=>(q.1,.int .i64 q.2)) w:=by
   intro L
   induction L with
   |nil=>intro es i h;simp [kvs] at h;subst h;rfl
   |cons p r ih=>
    intro es i h
    cases es with
    |nil=>simp [kvs] at h
    |cons x es=>
     simp only [En3,kvs,Eu7,Er8] at h;obtain ⟨⟨h1,h2⟩,h3⟩:=h;have he:(Op.equal 223 (mk a) x.key).run P w= .ok (decide (a=p.1)) w:=by rw [h1];exact eqmk 9998 a p.1 w
     simp only [Instr.findAsking,Sem.run_bind,he,Result.andThen_ok,asc]
     by_cases hc:a=p.1
     ·simp [hc,h2]
     ·simp only [hc,decide_false,Er7,if_false];exact ih es (i+1) h3
  have hk:=key L es 0 h
  cases es with
  |nil=>
   cases L with
   |nil=>simp [Instr.findKey,run_underlying Tryz.underlying223,Instr.findNow,asc]
   |cons p r=>simp [kvs] at h
  |cons x es=>
   cases L with
   |nil=>simp [kvs] at h
   |cons p r=>
    simp only [En3,kvs,Eu7,Er8] at h;obtain ⟨⟨h1,h2⟩,h3⟩:=h;simp only [Instr.findKey,Sem.run_bind,run_underlying Tryz.underlying223,Result.andThen_ok,Instr.findNow,h1];have:∀ fs,Instr.sameNow (.struct fs) (mk a) (mk p.1)=none:=fun fs=>rfl
    rw [this];exact hk
 same:=fun a=>by unfold Instr.sameBits mk;simp [Instr.sameBits]
abbrev Mark:=Int × Bool
def Ay0 (f:List Nat) (s k:Nat):Mark:=(((f.getD k 0:Nat):Int),s.testBit k)
def Q9 (f:List Nat) (s:Nat):Nat→List (Mark × Int)
 |0=>[]
 |k+1=>if (S9 (Q9 f s k) (Ay0 f s k)).isSome then Q9 f s k else Ba4 (Q9 f s k) (Ay0 f s k) ((Q9 f s k).length:Nat)
def Ar8 (f:List Nat) (s k:Nat):Nat:=((S9 (Q9 f s (k+1)) (Ay0 f s k)).getD 0).toNat
def Aa5 (f:List Nat) (s k:Nat):List Nat:=(List.range k).map (Ar8 f s)++f.drop k
def T7 (f:List Nat) (s:Nat):List Nat × Nat:=((List.range 256).map (Ar8 f s),(Q9 f s 256).length)
def F6 (S:List Nat):List Nat × Nat:=S.foldl (fun x s=>T7 x.1 s) (List.replicate 256 0,1)
def K3 (f:List Nat) (k i:Nat):Nat:=F1 ((List.range k).filter fun b=>decide (f.getD b 0=i))
def V5 (f:List Nat) (n k:Nat):List Nat:=(List.range n).map (K3 f k)
theorem An8 (f:List Nat) (s:Nat):∀ k,∀ x∈Q9 f s k,0≤x.2∧x.2<((Q9 f s k).length:Nat)
 |0,x,hx=>by simp [Q9] at hx
 |k+1,x,hx=>by
  have ih:=An8 f s k;unfold Q9 at hx ⊢
  split
  ·rename_i h;rw [Ek1 h] at hx;exact ih x hx
  ·rename_i h
   rw [Ek0 h] at hx;rw [Bg6]
   have hn:S9 (Q9 f s k) (Ay0 f s k)=none:=by
    cases hm:S9 (Q9 f s k) (Ay0 f s k) with
    |none=>rfl
    |some v=>rw [hm] at h;simp at h
   rw [Ek1 hn]
   rcases Ax8 hx with rfl|hx
   ·simp only;omega
   ·have:=ih x hx;omega
theorem De6 (f:List Nat) (s:Nat):∀ k,(Q9 f s k).length≤k
 |0=>by simp [Q9]
 |k+1=>by
  have ih:=De6 f s k;unfold Q9
  split
  ·omega
  ·rw [Bg6];split<;>omega
theorem Cl5 (f:List Nat) (s:Nat) (k:Nat) (m:Mark) (v:Int) (h:S9 (Q9 f s k) m=some v):S9 (Q9 f s (k+1)) m=some v:=by
 rw [Q9]
 split
 ·exact h
 ·rename_i hn
  rw [Z3]
  by_cases hm:m=Ay0 f s k
  ·subst hm;rw [h] at hn;simp at hn
  ·rw [Ek0 hm];exact h
theorem Bk6 (f:List Nat) (s k:Nat):∃ v,S9 (Q9 f s (k+1)) (Ay0 f s k)=some v:=by
 rw [Q9]
 split
 ·rename_i h;exact Ep6.1 h
 ·rw [Z3,Ek1 J];exact ⟨_,rfl⟩
theorem Cv0 (f:List Nat) (s:Nat) (m:Mark) (v:Int):∀ (d k:Nat),S9 (Q9 f s k) m=some v→S9 (Q9 f s (k+d)) m=some v
 |0,k,h=>h
 |d+1,k,h=>by rw [show k+(d+1)=(k+d)+1 from by omega];exact Cl5 f s _ m v (Cv0 f s m v d k h)
theorem Dd7 (f:List Nat) (s k n:Nat) (h:k<n):Ar8 f s k<(Q9 f s n).length:=by
 obtain ⟨v,hv⟩:=Bk6 f s k;have h1:=Cv0 f s _ v (n - (k+1)) (k+1) hv;rw [show k+1+(n - (k+1))=n from by omega] at h1;have h2:=An8 f s n _ (P4 h1);unfold Ar8;rw [hv];simp only [Eo1];simp only at h2;omega
theorem Ap8 (f:List Nat) (s:Nat):(T7 f s).1.length=256:=by simp [T7]
theorem Dk2 (f:List Nat) (s k:Nat) (hf:f.length=256) (hk:k≤256):(Aa5 f s k).length=256:=by simp [Aa5];omega
theorem Ct0 (f:List Nat) (s:Nat):Aa5 f s 0=f:=by simp [Aa5]
theorem Ct1 (f:List Nat) (s:Nat) (hf:f.length=256):Aa5 f s 256=(T7 f s).1:=by
 unfold Aa5 T7;rw [List.drop_of_length_le (by omega),Ep1]
theorem Bi0 (f:List Nat) (s k:Nat) (hf:f.length=256) (hk:k<256):P3 (Aa5 f s (k+1))=(P3 (Aa5 f s k)).set k (.int .i64 ((Ar8 f s k:Nat):Int)):=by
 apply Em4;intro i;simp only [P3,Aa5,El8,En1,List.getElem?_append,Eo2,Eq4,Ek5,List.length_drop,hf,List.getElem?_drop]
 by_cases h1:i<k
 ·rw [Ek1 (by omega:i<k+1),Ek1 h1,Ek0 (by omega:¬ k=i),Em7 (by omega:i<k+1),Em7 h1]
 ·by_cases h2:i=k
  ·subst h2;rw [Ek1 (by omega:i<i+1),Ek1 J,Ek1 (by omega),Em7 (by omega:i<i+1)]
   rfl
  ·rw [Ek0 (by omega:¬ i<k+1),Ek0 h1,Ek0 (by omega:¬ k=i)]
   congr 2;omega
theorem Dk3 (f:List Nat) (s k:Nat) (hk:k<256):(Aa5 f s k).getD k 0=f.getD k 0:=by
 simp only [Aa5,Ek2];rw [Em2 (by simp)];simp [List.getElem?_drop]
theorem Bx3 (S:List Nat):(F6 S).1.length=256∧(∀ b,b<256→(F6 S).1.getD b 0<(F6 S).2)∧(F6 S).2≤256:=by
 unfold F6
 rcases List.eq_nil_or_concat S with rfl|⟨r,s,rfl⟩
 ·simp only [Eq8];refine ⟨En5,fun b hb=>?_,by show 1≤256;omega⟩;rw [Ek2,Es4,Ek1 hb];exact Nat.one_pos
 ·rw [List.concat_eq_append,En9];simp only [Eq1,Eq8];generalize r.foldl (fun x s=>T7 x.1 s) (List.replicate 256 0,1)=y
  have h3:(T7 y.1 s).2≤256:=by
   have h:=De6 y.1 s 256;unfold T7;generalize Q9 y.1 s 256=z at h ⊢;exact h
  refine ⟨Ap8 _ _,fun b hb=>?_,h3⟩;simp only [T7];rw [Ek2,El8,Em7 hb];exact Dd7 _ _ _ _ hb
theorem Bw8 (f:List Nat) (n k:Nat):(V5 f n k).length=n:=by simp [V5]
theorem Cy9 (f:List Nat) (n:Nat):V5 f n 0=List.replicate n 0:=by
 apply List.ext_getElem
 ·simp [V5]
 ·intro i h1 h2;simp [V5,K3,F1]
theorem Ck9 (l:List Nat) (k:Nat):F1 (l++[k])=F1 l|||2 ^ k:=by unfold F1;rw [En9];rfl
theorem Cz0 (f:List Nat) (n k:Nat) (hk:f.getD k 0<n):V5 f n (k+1)=(V5 f n k).set (f.getD k 0) (V8 [(V5 f n k).getD (f.getD k 0) 0,F1 [k]]):=by
 have hu:V8 [(V5 f n k).getD (f.getD k 0) 0,F1 [k]]=K3 f (k+1) (f.getD k 0):=by
  have h1:(V5 f n k).getD (f.getD k 0) 0=K3 f k (f.getD k 0):=by
   rw [Ek2,V5,El8,Em7 hk];rfl
  rw [h1];unfold V8 K3;rw [Ep7,Eq5];simp only [Et4,decide_true,if_true,List.filter_nil];rw [Ck9];have h2:F1 [k]=2 ^ k:=by simp [F1]
  simp [h2]
 rw [hu];apply Em4;intro i;simp only [V5,El8,En1,Eo2,Eq4]
 by_cases hi:i<n
 ·rw [Em7 hi];simp only [En4]
  by_cases h2:f.getD k 0=i
  ·rw [Ek1 h2,Ek1 hk,h2]
  ·rw [Ek0 h2];unfold K3;rw [Ep7,Eq5];simp only [Et4,h2,decide_false,Er7,if_false,List.filter_nil,Ep1]
 ·rw [El5 (by simp;omega)];simp only [Option.map_none]
  split
  ·omega
  ·rfl
theorem Db1:∀ (l:List Nat) (i u:Nat),i<l.length→(F5 l).take (0+i*4)++C4 u++(F5 l).drop (0+i*4+4)=F5 (l.set i u)
 |[],i,u,h=>by simp at h
 |s::l,0,u,h=>by simp [F5,C4]
 |s::l,i+1,u,h=>by
  have ih:=Db1 l i u (by simpa using h);simp only [El6] at ih ⊢;rw [show (i+1)*4=i*4+1+1+1+1 from by omega,show i*4+1+1+1+1+4=(i*4+4)+1+1+1+1 from by omega];show (C4 s++F5 l).take _++_++(C4 s++F5 l).drop _=C4 s++F5 (l.set i u);simp only [C4,Ek7,Ek8,Ep3,List.drop_succ_cons];simp only [C4] at ih;rw [← ih]
theorem Dq6 (f:List Nat) (i:Nat):L4 (K3 f 256 i):=Aq1 _ fun b hb=>Em9.1 (Er4.1 hb).1
theorem Dy5 (n:Nat):P3 (List.replicate n 0)=List.replicate n (.int .i64 0):=by simp [P3]
theorem Dd8 (l:List Nat):(P3 l).all Value.oneCell'=true:=by
 induction l with
 |nil=>rfl
 |cons b r ih=>simp only [P3,En3,List.all_cons,Ek6] at*;exact ⟨rfl,ih⟩
theorem Blk.cells {w:World} {b:Nat} {cs:List Value} {τ:TypeId} (h:Blk w b cs τ):∀ j v,cs[j]?=some v→w.cell? ⟨b,0+j,none⟩=some v:=fun j v hj=>by rw [h.cell,El6];exact hj
theorem Dk1 (f:List Nat) (s k:Nat):∃ v,(S9 (Q9 f s (k+1)) (Ay0 f s k))=some v∧v=((Ar8 f s k:Nat):Int):=by
 obtain ⟨v,hv⟩:=Bk6 f s k;refine ⟨v,hv,?_⟩;have:=An8 f s (k+1) _ (P4 hv);unfold Ar8;rw [hv];simp only [Eo1] at this ⊢;omega
theorem Dk4 (f:List Nat) (s:Nat):(T7 f s).2=(Q9 f s 256).length:=by
 unfold T7;generalize Q9 f s 256=z
 rfl
theorem split_c (f:List Nat) (s:Nat) (hf:f.length=256) (w:World):Calls P 102 #[.agg (P3 f).toArray,.agg (C4 s).toArray] w (Ret fun u w'=>Chg [] w w'∧u= .tuple #[.agg (P3 (T7 f s).1).toArray,.int .i64 ((T7 f s).2:Nat)]):=by
 have hC:=A8 [] w;refine D4 Tryz.func102 J J (Qd (B5 J (E1 J J) ?_));intro b1 w1 hb1 hs1 hx1 hB1;have hC:=hC.s0 hx1;refine B5 J (E1 J J) ?_;intro b2 w2 hb2 hs2 hx2 hB2;have hC:=hC.s0 hx2;have hB1:=hB1.u hx2;refine B5 J (B8 (cs:=List.replicate 256 (.int .i64 0)) zr127 J) ?_;intro b3 w3 hb3 hs3 hx3 hB3;have hC:=hC.s0 hx3;have hB1:=hB1.u hx3;have hB2:=hB2.u hx3;refine Zc 1 J (Qd (Ae6 mk J ?_));intro b4 w4 hb4 hs4 hx4 hM4;have hC:=hC.s0 hx4;have hB1:=hB1.u hx4;have hB2:=hB2.u hx4;have hB3:=hB3.u hx4
 refine Zc 1 J (Qa (Qd (Zc 1 J (B2 (D8 (σ:=Nat) (fun k=>[(2,.pointer (some ⟨b1,0,none⟩)),(3,.pointer (some ⟨b2,0,none⟩)),(4,.pointer (some ⟨b3,0,none⟩)),(5,.int .i64 0),(6,.map (some b4)),(12,.int .i64 k)]) (fun k wr=>Chg [] w wr∧Blk wr b1 (P3 (Aa5 f s k)) 127∧Blk wr b2 (C4 s) 70∧Blk wr b3 (List.replicate 256 (.int .i64 0)) 127∧Mp mk wr b4 (Q9 f s k)∧k≤256) (fun k wr=>256 - k) 0 ⟨rfl,rfl,rfl,rfl,rfl,rfl,trivial⟩ ?_ ?_)))))
 ·refine ⟨hC,?_,hB2,hB3,hM4,El0 _⟩;rw [Ct0];exact hB1
 rintro k w9 ⟨hC,hB1,hB2,hB3,hM,hk⟩;have hlM:=hM.lt
 refine Qd (Zc 1 J (Qa (A4 J (fun h1=>?_) (fun h1=>?_))))
 ·try simp at h1
  have hk':k<256:=by omega
  have hul:=Dk2 f s k hf hk
  refine A7 (Qa (B2 (Qd (Zc 2 J (I3 (fun e9 wr=>∃ bm,Sub [(2,.pointer (some ⟨b1,0,none⟩)),(3,.pointer (some ⟨b2,0,none⟩)),(4,.pointer (some ⟨b3,0,none⟩)),(5,.int .i64 0),(6,.map (some b4)),(7,.int .i64 k),(12,.int .i64 k),(8,.pointer (some ⟨bm,0,none⟩))] e9∧Chg [] w wr∧Blk wr b1 (P3 (Aa5 f s k)) 127∧Blk wr b2 (C4 s) 70∧Blk wr b3 (List.replicate 256 (.int .i64 0)) 127∧Mp mk wr b4 (Q9 f s k)∧Blk wr bm [.int .i64 ((f.getD k 0:Nat):Int),.bool (s.testBit k)] 223) ?_ ?_)))))
  ·refine Bp5 (S:=[]) 9 (.two [(0,0),(0,1),(0,2),(0,3),(0,4),(0,5)] 6 (.seg [(0,7),(1,8),(2,9)]) 8 (.seg [(1,6),(0,7),(2,9)])) mo (by kernel_rfl) ?_;simp only [ET];intro w5 hx5 hh5;have hC:=hC.s0 hx5;have hB1:=hB1.u hx5;have hB2:=hB2.u hx5;have hB3:=hB3.u hx5;have hM:=hM.u hx5;have hCS5:=A8 ([]) w5;have hcell:=hB1.cells k _ (Y6 (Aa5 f s k) k (by omega));rw [Dk3 f s k hk'] at hcell;refine Z 1 J (D6 J (E6 Dq7 J J (by omega) (by omega)) (D6 J (E0 o3 J hcell (by first|(simp;done)|(simp;omega))) ?_));refine D6 J (C1 J0 J ‹_› (by simp;done) (by simp only [List.take,List.drop,List.append,Ek7,Ek8];rfl) J) ?_;refine Z 1 J (D6 J (H4 kn3 Tryz.underlying5 J (by exact Al5 (by omega))) ?_)
   refine Qc ⟨?_,?_⟩
   ·refine C5 J (C3 fb137 J) (has_c s k hk' _) ?_;rintro _ w6 ⟨rfl,hx6⟩;have hz6:=hx6.size;have hC:=hC.s0 hx6;have hB1:=hB1.u hx6;have hB2:=hB2.u hx6;have hB3:=hB3.u hx6;have hM:=hM.u hx6;have hCS5:=hCS5.s0 hx6;refine ⟨hCS5,?_⟩;refine Qc (D6 J (B1 zr223 pl223 J (by rfl)) ?_);refine E2 J (B8 zr223 J) ?_;intro b7 w7 hb7 hs7 hx7 hB7;have hC:=hC.s0 hx7;have hB1:=hB1.u hx7;have hB2:=hB2.u hx7;have hB3:=hB3.u hx7;have hM:=hM.u hx7;have hCS5:=hCS5.s0 hx7;refine ⟨hCS5,?_⟩;refine Pb sz223 J J ‹_› J J J J (by simp only [List.take,List.drop,List.append,Ek7,Ek8];rfl) ?_;intro w8 hs8 hx8 hB7;have hC:=hC.step hx8 (by simp;omega);have hB1:=hB1.q hx8 (by simp;omega);have hB2:=hB2.q hx8 (by simp;omega);have hB3:=hB3.q hx8 (by simp;omega);have hM:=hM.q hx8 (by simp;omega);exact Qc ⟨b7,⟨rfl,rfl,rfl,rfl,rfl,rfl,rfl,rfl,trivial⟩,hC,hB1,hB2,hB3,hM,hB7⟩
   ·refine E2 J (B8 zr223 J) ?_;intro b9 w9 hb9 hs9 hx9 hB9;have hC:=hC.s0 hx9;have hB1:=hB1.u hx9;have hB2:=hB2.u hx9;have hB3:=hB3.u hx9;have hM:=hM.u hx9;have hCS5:=hCS5.s0 hx9;refine ⟨hCS5,?_⟩;refine Qc (C5 J (C3 fb137 J) (has_c s k hk' _) ?_);rintro _ w10 ⟨rfl,hx10⟩;have hC:=hC.s0 hx10;have hB1:=hB1.u hx10;have hB2:=hB2.u hx10;have hB3:=hB3.u hx10;have hM:=hM.u hx10;have hCS5:=hCS5.s0 hx10;have hB9:=hB9.u hx10;refine ⟨hCS5,?_⟩;refine D6 J (B1 zr223 pl223 J (by rfl)) ?_;refine Pb sz223 J J ‹_› J J J J (by simp only [List.take,List.drop,List.append,Ek7,Ek8];rfl) ?_;intro w11 hs11 hx11 hB9;have hC:=hC.step hx11 (by simp;omega);have hB1:=hB1.q hx11 (by simp;omega);have hB2:=hB2.q hx11 (by simp;omega);have hB3:=hB3.q hx11 (by simp;omega);have hM:=hM.q hx11 (by simp;omega);exact Qc ⟨b9,⟨rfl,rfl,rfl,rfl,rfl,rfl,rfl,rfl,trivial⟩,hC,hB1,hB2,hB3,hM,hB9⟩
  rintro e9 w8 ⟨bm,hs9,hC,hB1,hB2,hB3,hM,hBm⟩;refine I2 _ hs9 ?_;clear hs9 e9;have hneM1:=hM.neBlk hB1;obtain ⟨v,hv,hvn⟩:=Dk1 f s k;refine Qd (Z 1 J (La ag223 J ‹_› (by simp only [List.take,List.drop,List.append,Ek7,Ek8];rfl) J ?_))
  refine C9 J (Bp8 (mk_law Tryz.underlying223) mp220 zr3 J J (a:=Ay0 f s k) hM (F4 _)) (Zc 5 J (Qa (Qd (Zc 2 J (A4 J (fun h2=>?_) (fun h2=>?_))))))
  ·try simp at h2
   have hno:S9 (Q9 f s k) (Ay0 f s k)=none:=by simpa using h2
   have hme:Q9 f s (k+1)=Ba4 (Q9 f s k) (Ay0 f s k) ((Q9 f s k).length:Nat):=by rw [Q9,Ek0 (by rw [hno];simp)]
   have hv2:v=((Q9 f s k).length:Nat):=by rw [hme,Z3,Ek1 J] at hv;cases hv;rfl
   refine Qd (Z 1 J (C9 J (Cr2 (k:=223) (el:=3) mp220 J hM (F4 _)) (Zc 1 J (Qb (Z 1 J (La ag223 J ‹_› (by simp only [List.take,List.drop,List.append,Ek7,Ek8];rfl) J ?_))))));refine Z 1 J (Bp6 (a:=Ay0 f s k) (Or.inl J) (mk_law Tryz.underlying223) mp220 J J J hM ?_);intro w12 hs12 hx12 hM12;have hC:=hC.step hx12 (by simp;omega);have hB1:=hB1.q hx12 (by simp;omega);have hB2:=hB2.q hx12 (by simp;omega);have hB3:=hB3.q hx12 (by simp;omega)
   replace hM:=hM12
   refine Qc (Qb (Z 2 J (C9 J (E6 Dq7 J J (by omega) (by omega)) (Pb (cs':=(P3 (Aa5 f s (k+1)))) sz3 J J hB1 J J J (by simp [P3,hul];omega) (by rw [Bi0 f s k hf hk',← hvn,hv2];simp [Eq0,P3,hul];omega) ?_))));intro w13 hs13 hx13 hB1;have hC:=hC.step hx13 (by simp;omega);have hB2:=hB2.q hx13 (by simp;omega);have hB3:=hB3.q hx13 (by simp;omega);have hM:=hM.q hx13 (by simp;omega);refine Qc (Qb (Ad J J (by omega) (Zc 1 J ⟨k+1,⟨rfl,rfl,rfl,rfl,rfl,rfl,trivial⟩,?_,?_⟩)));exact ⟨hC,hB1,hB2,hB3,by rw [hme];exact hM,hk'⟩;omega
  ·try simp at h2
   have hyes:(S9 (Q9 f s k) (Ay0 f s k)).isSome=true:=by simpa using h2
   have hme:Q9 f s (k+1)=Q9 f s k:=by rw [Q9,Ek1 hyes]
   have hv2:(S9 (Q9 f s k) (Ay0 f s k)).getD 0=((Ar8 f s k:Nat):Int):=by rw [← hme,hv,hvn];rfl
   refine A7 (Qb (Z 2 J (C9 J (E6 Dq7 J J (by omega) (by omega)) (Pb (cs':=(P3 (Aa5 f s (k+1)))) sz3 J J hB1 J J J (by simp [P3,hul];omega) (by rw [Bi0 f s k hf hk',← hv2];simp [Eq0,P3,hul];omega) ?_))));intro w14 hs14 hx14 hB1;have hC:=hC.step hx14 (by simp;omega);have hB2:=hB2.q hx14 (by simp;omega);have hB3:=hB3.q hx14 (by simp;omega);have hM:=hM.q hx14 (by simp;omega);refine Qc (Qb (Ad J J (by omega) (Zc 1 J ⟨k+1,⟨rfl,rfl,rfl,rfl,rfl,rfl,trivial⟩,?_,?_⟩)));exact ⟨hC,hB1,hB2,hB3,by rw [hme];exact hM,hk'⟩;omega
 ·try simp at h1
  have hkk:k=256:=by omega
  subst hkk;rw [Ct1 f s hf] at hB1;have hsl:=Ap8 f s;refine Xb (Qd (C9 J (E8 (vs:=(P3 (T7 f s).1)) Ei0 J (F4 _) hB1.cells (by rw [Y5];exact hsl)) ?_));refine Z 1 J (C9 J (Cr2 (k:=223) (el:=3) mp220 J hM (F4 _)) (Pb (cs':=(P3 (T7 f s).1)) sz127 J J hB3 J (by rw [Y5];exact hsl) (Dd8 _) J (by simp [P3,hsl]) ?_));intro w15 hs15 hx15 hB3;have hC:=hC.step hx15 (by simp;omega);refine Zc 1 J (A6 (I7 J J (A5 Ei0 ‹_› (by simp only [List.take,List.drop,List.append,Ek7,Ek8];rfl) J) J ?_));refine ⟨hC,?_⟩;rw [En0 (by rw [Y5];omega),Dk4]
theorem Bj3:∀ (cs vs:List Value),vs.length≤cs.length→Ct9 cs 0 vs=vs++cs.drop vs.length
 |[],[],_=>rfl
 |[],v::vs,h=>by simp at h
 |c::cs,[],_=>rfl
 |c::cs,v::vs,h=>by simp only [Ct9,En2,List.drop_succ_cons,Ek7];rw [Bj3 cs vs (by simpa using h)]
theorem Cj3:∀ (cs:List Value) (o:Nat) (vs:List Value),vs.length≤cs.length - o→o≤cs.length→Ct9 cs o vs=cs.take o++Ct9 (cs.drop o) 0 vs
 |cs,0,vs,_,_=>by simp
 |[],o+1,vs,_,h=>by simp at h
 |c::cs,o+1,vs,h1,h2=>by simp only [Ct9,Ep3,List.drop_succ_cons,Ek7];rw [Cj3 cs o vs (by simpa using h1) (by simpa using h2)]
theorem fill129 (f:List Value) (hf:f.length=256) (x:Value) (hx:U4 x=[x]):Bm6 ([(0,256),(256,1)][·]?) (U4 (.agg (List.replicate 256 (Value.int .i64 0)++[Value.slice none 0 0]).toArray)) [(0,.agg f.toArray),(1,x)]=some (f++[x]):=by
 have h0:U4 (.agg (List.replicate 256 (Value.int .i64 0)++[Value.slice none 0 0]).toArray)=List.replicate 256 (Value.int .i64 0)++[Value.slice none 0 0]:=rfl;have h1:U4 (.agg f.toArray)=f:=rfl;rw [h0];generalize hz:(List.replicate 256 (Value.int .i64 0))=z;have hzl:z.length=256:=by rw [← hz,En5]
 unfold Bm6;simp only [Et2,h1];have hb:(Nat.beq f.length 256 && Nat.ble (0+256) (z++[Value.slice none 0 0]).length)=true:=by simp [hf,hzl]
 rw [hb,cond_true];unfold Bm6;simp only [Es1,Et2,hx];rw [Bj3 _ _ (by simp [hzl,hf])];have hd:(z++[Value.slice none 0 0]).drop f.length=[Value.slice none 0 0]:=by rw [List.drop_append_of_le_length (by omega),List.drop_of_length_le (by omega)];rfl
 rw [hd];have hb2:(Nat.beq [x].length 1 && Nat.ble (256+1) (f++[Value.slice none 0 0]).length)=true:=by simp [hf]
 rw [hb2,cond_true];unfold Bm6;rw [Cj3 _ 256 _ (by simp [hf]) (by simp [hf]),Bj3 _ _ (by simp [hf])];simp [← hf]
structure BlkM (F:Nat→Prop) (w:World) (p:Nat) (f:List Nat) (n:Nat) (bs:Nat):Prop where
 blk:Blk w p (P3 f++[.slice (some ⟨bs,0,none⟩) n n]) 129
 fp:F p
 sets:Blk w bs (F5 (V5 f n 256)) 70
 fs:F bs
 len:f.length=256
def IsBlk (F:Nat→Prop) (w:World) (p:Nat) (f:List Nat) (n:Nat):Prop:=∃ bs,BlkM F w p f n bs
theorem IsBlk.q {F:Nat→Prop} {w w':World} {p n:Nat} {f:List Nat} {S:List Nat} (h:IsBlk F w p f n) (c:Chg S w w') (hS:∀ b∈S,¬ F b):IsBlk F w' p f n:=by
 obtain ⟨bs,h⟩:=h;exact ⟨bs,h.blk.q c (fun hm=>hS _ hm h.fp),h.fp,h.sets.q c (fun hm=>hS _ hm h.fs),h.fs,h.len⟩
theorem IsBlk.u {F:Nat→Prop} {w w':World} {p n:Nat} {f:List Nat} (h:IsBlk F w p f n) (c:Chg [] w w'):IsBlk F w' p f n:=h.q c (by simp)
theorem IsBlk.mono {F F':Nat→Prop} {w:World} {p n:Nat} {f:List Nat} (h:IsBlk F w p f n) (hF:∀ b,F b→b<w.heap.size→F' b):IsBlk F' w p f n:=by
 obtain ⟨bs,h⟩:=h;exact ⟨bs,h.blk,hF _ h.fp h.blk.lt,h.sets,hF _ h.fs h.sets.lt,h.len⟩
theorem IsBlk.lt {F:Nat→Prop} {w:World} {p n:Nat} {f:List Nat} (h:IsBlk F w p f n):p<w.heap.size:=by
 obtain ⟨bs,h⟩:=h;exact h.blk.lt
theorem Bq3 (n:Nat):F5 (List.replicate n 0)=List.replicate (n*4) (.int .u64 0):=by
 induction n with
 |zero=>rfl
 |succ n ih=>
  rw [Es5,show (n+1)*4=4+n*4 from by omega,← List.replicate_append_replicate];show C4 0++F5 (List.replicate n 0)=_;rw [ih,C6];rfl
theorem made_set (m:Nat):(madeCells #[.int .u64 0,.int .u64 0,.int .u64 0,.int .u64 0] m).toList=List.replicate m (.int .u64 0):=by
 apply List.ext_getElem
 ·simp [madeCells]
 ·intro i h1 h2;have h4:i % 4=0∨i % 4=1∨i % 4=2∨i % 4=3:=by omega
  simp only [madeCells];rcases h4 with h|h|h|h<;>simp [h]
theorem bbuild_c (f:List Nat) (n:Nat) (hf:f.length=256) (hv:∀ b,b<256→f.getD b 0<n) (hn:n≤256) (w:World):Calls P 103 #[.agg (P3 f).toArray,.int .i64 (n:Nat)] w (Ret fun u w'=>Chg [] w w'∧∃ p,u= .pointer (some ⟨p,0,none⟩)∧IsBlk (FR w.heap.size w'.heap.size []) w' p f n):=by
 have hC:=A8 [] w;have hnl:(P3 f).length=256:=by rw [Y5];exact hf
 refine D4 Tryz.func103 J J (Qd (B5 J (E1 J J) ?_));intro b1 w1 hb1 hs1 hx1 hB1;refine Zc 1 J (Qa (C8 (S:=[]) 3 [(0,0),(0,1),(1,2),(2,3),(2,4),(2,5)] mo (by kernel_rfl) ?_));intro w2 hx2 hh2;have hB1:=hB1.u hx2;have hCS2:=A8 ([]) w2;refine D6 J (J5 (vs:=(P3 f)) Ei0 J ⟨Blk.lt ‹_›,Blk.cells ‹_›⟩ (by simp;done) hnl) ?_;refine Z 1 J (E2 J (O7 el23 N0 J (cs:=List.replicate (n*4) (.int .u64 0)) (by omega) (by omega) (by show (madeCells #[_,_,_,_] (((n:Nat):Int).toNat*4)).toList=_;rw [Ek9];exact made_set _)) ?_);intro b3 w3 hb3 hs3 hx3 hB3;have hCS2:=hCS2.s0 hx3;refine ⟨hCS2,?_⟩;refine C9 J (B1 (vs:=[(0,.agg (P3 f).toArray),(1,.slice (some ⟨b3,0,none⟩) n n)]) zr129 pl129 (by rfl) (fill129 (P3 f) hnl _ J)) ?_;refine B5 J (E1 J J) ?_;intro b4 w4 hb4 hs4 hx4 hB4;have hC:=hC.s0 (((hx1.s0 hx2).s0 hx3).s0 hx4);have hB1:=hB1.u (hx3.s0 hx4);have hB3:=hB3.u hx4
 refine Zc 1 J (Qa (Qd (Zc 1 J (B2 (D8 (σ:=Nat) (fun k=>[(2,.pointer (some ⟨b1,0,none⟩)),(5,.pointer (some ⟨b4,0,none⟩)),(12,.int .i64 k)]) (fun k wr=>Chg [] w wr∧Blk wr b1 (P3 f) 127∧Blk wr b4 (P3 f++[.slice (some ⟨b3,0,none⟩) n n]) 129∧Blk wr b3 (F5 (V5 f n k)) 70∧k≤256) (fun k wr=>256 - k) 0 (sb J) ?_ ?_)))))
 ·refine ⟨hC,hB1,hB4,?_,El0 _⟩;rw [Cy9,Bq3];exact hB3
 rintro k w9 ⟨hC,hB1,hB4,hB3,hk⟩
 refine Qd (Zc 1 J (Qa (A4 J (fun h1=>?_) (fun h1=>?_))))
 ·try simp at h1
  have hk':k<256:=by omega
  have hfv:=hv k hk';have hbl:=Bw8 f n k;refine A7 (Qa (B2 (Qd (Zc 2 J (C8 (S:=[]) 22 [(0,0),(0,1),(0,2),(0,3),(0,4),(0,5),(0,6),(0,7),(0,8),(0,9),(0,10),(0,11),(0,12),(0,13),(0,14),(0,15),(0,16),(0,17),(1,18),(1,19),(1,20),(1,21),(2,22),(2,23)] mo (by kernel_rfl) ?_)))));intro w5 hx5 hh5;have hB1:=hB1.u hx5;have hB4:=hB4.u hx5;have hB3:=hB3.u hx5;have hCS5:=A8 ([]) w5;have hcell:=hB1.cells k _ (Y6 f k (by omega));have hsl:=hB4.cells 256 (.slice (some ⟨b3,0,none⟩) n n) (by rw [Em2 (by omega),hnl];rfl)
  have hset:∀ j v,(C4 ((V5 f n k).getD (f.getD k 0) 0))[j]?=some v→((World.cell? _ ⟨b3,0+(((f.getD k 0:Nat):Int)).toNat*4+j,none⟩)=some v):=fun j v hj=>by
   have hj4:j<4:=(Em5.1 hj).1;rw [hB3.cell,El6,Ek9,O2 _ _ _ (by rw [hbl];exact hfv) hj4];exact hj
  refine Z 2 J (Fa Cd8 J (D6 J (E0 o23 J hsl (by simp<;>omega)) ?_));refine Z 1 J (D6 J (E6 Dq7 J J (by omega) (by omega)) (D6 J (E0 o3 J hcell (by simp<;>omega)) ?_));refine Z 2 J (Fa Cd8 J (D6 J (E0 o23 J hsl (by simp<;>omega)) ?_));refine Z 1 J (D6 J (E6 Dq7 J J (by omega) (by omega)) (D6 J (E0 o3 J hcell (by simp<;>omega)) ?_));refine D6 J (C2 Ar5 J J (by omega) (by omega)) (D6 J (J5 (vs:=(C4 ((V5 f n k).getD (f.getD k 0) 0))) J0 J ⟨hB3.lt,hset⟩ (by simp;done) J) ?_);refine Z 1 J (D6 J (H4 kn3 Tryz.underlying5 J (by exact Al5 (by omega))) ?_);refine E2 J (B7 Al4 Tryz.underlying44 zr5 J J J (by rfl)) ?_;intro b6 w6 hb6 hs6 hx6 hB6;have hCS5:=hCS5.s0 hx6;refine ⟨hCS5,?_⟩;refine C5 J (C3 W4 J) (W3 _ _ _ _ _ ‹_› (by omega) (by omega)) ?_;rintro _ w7 ⟨rfl,hx7⟩;have hCS5:=hCS5.s0 hx7;refine ⟨hCS5,?_⟩;refine E2 J (B7 Ar5 Tryz.underlying23 N0 J J J (by rfl)) ?_;intro b8 w8 hb8 hs8 hx8 hB8;have hCS5:=hCS5.s0 hx8;refine ⟨hCS5,?_⟩;refine C5 J (C3 Ab1 J) (By0 ((V5 f n k).getD (f.getD k 0) 0) (F1 [k]) _ _ _ _ ‹_›) ?_;rintro _ w9 ⟨rfl,hx9⟩;have hB3:=hB3.u (((hx6.s0 hx7).s0 hx8).s0 hx9);have hCS5:=hCS5.s0 hx9;refine ⟨hCS5,?_⟩;refine C9 J (C2 Ar5 J J (by omega) (by omega)) (Pb (cs':=(F5 (V5 f n (k+1)))) J9 J J hB3 J J J (by rw [U5,hbl,Ep4];omega) (by rw [Cz0 f n k hfv,Ek9];exact Db1 _ _ _ (by rw [hbl];exact hfv)) ?_);intro w10 hs10 hx10 hB3;have hC:=hC.step (((((hx5.j hx6).j hx7).j hx8).j hx9).j hx10) (by simp<;>omega);have hB1:=hB1.q ((((hx6.j hx7).j hx8).j hx9).j hx10) (by simp<;>omega);have hB4:=hB4.q ((((hx6.j hx7).j hx8).j hx9).j hx10) (by simp<;>omega);refine Qc (Qb (Ad J J (by omega) (Zc 1 J ⟨k+1,sb J,?_,?_⟩)));exact ⟨hC,hB1,hB4,hB3,hk'⟩;omega
 ·try simp at h1
  have hkk:k=256:=by omega
  subst hkk;exact Xb (Qd (Zc 2 J (A6 (B4 J J ⟨hC,b4,rfl,b3,hB4,⟨by omega,hB4.lt,by simp⟩,hB3,⟨by omega,hB3.lt,by simp⟩,hf⟩))))
theorem Be9 (S:List Nat) (k:Nat) (hk:k<S.length):F6 (S.take (k+1))=T7 (F6 (S.take k)).1 (S.getD k 0):=by
 unfold F6;rw [Eq2 hk,En9];simp only [Eq1,Eq8];rw [Ek2,Ek4 hk]
 rfl
theorem bnew_c (S:List Nat) (F:Nat→Prop) (A:Option Addr) (c:Nat) (w:World) (hn:S.length≤1000000) (hF:∀ x,F x→x<w.heap.size) (hr:Rd F w 4 A S.length (F5 S)):
  Calls P 73 #[.slice A S.length c] w (Ret fun u w'=>Chg [] w w'∧∃ p,u= .pointer (some ⟨p,0,none⟩)∧IsBlk (FR w.heap.size w'.heap.size []) w' p (F6 S).1 (F6 S).2):=by
 have hC:=A8 [] w;refine D4 Tryz.func73 J J (Qd (Zc 1 J (Qd (B5 J (B8 (cs:=List.replicate 256 (Value.int .i64 0)) zr127 J) ?_))));intro b1 w1 hb1 hs1 hx1 hB1;have hC:=hC.s0 hx1;have hr:=hr.u hx1
 refine Qc (Qd (Zc 1 J (Qa (Qd (Z 1 J (Ln Tryz.underlying23 J (Zc 1 J (B2 (D8 (σ:=Nat) (fun k=>[(3,.pointer (some ⟨b1,0,none⟩)),(4,.int .i64 (((F6 (S.take k)).2:Nat):Int)),(7,.slice A S.length c),(8,.int .i64 (S.length:Nat)),(9,.int .i64 k)]) (fun k wr=>Chg [] w wr∧Rd F wr 4 A S.length (F5 S)∧Blk wr b1 (P3 (F6 (S.take k)).1) 127∧k≤S.length) (fun k wr=>S.length - k) 0 (sb J) ?_ ?_)))))))))
 ·refine ⟨hC,hr,?_,El0 _⟩;show Blk _ b1 (P3 (List.replicate 256 0)) 127;rw [Dy5];exact hB1
 rintro k w9 ⟨hC,hr,hB1,hk⟩;have hok:=Bx3 (S.take k)
 try have hlB1:=hB1.lt
 refine Qd (Zc 1 J (Qa (A4 J (fun h1=>?_) (fun h1=>?_))))
 ·try simp at h1
  have hkn:k<S.length:=by omega
  have hA:∃ g off,A=some ⟨g,off,none⟩∧F g:=by obtain ⟨g,off,h,h2,_⟩:=hr.at_ (by omega);exact ⟨g,off,h,h2⟩
  obtain ⟨g,off,rfl,_⟩:=hA
  have hset:∀ j v,(C4 (S.getD k 0))[j]?=some v→(w9.cell? ⟨g,off+(((k:Nat):Int)).toNat*4+j,none⟩=some v):=fun j v hj=>by
   obtain ⟨g',off',h,_,_,hc⟩:=hr.at_ (by omega);injection h with h;injection h with h1 h2;subst h1;subst h2
   have hj4:j<4:=(Em5.1 hj).1;rw [Em3,Ek9];exact hc _ v (by rw [O2 _ _ _ hkn hj4];exact hj)
  have hfl:(P3 (F6 (S.take k)).1).length=256:=by rw [Y5];exact hok.1
  have hFn:∀ x∈[b1],¬ F x:=fun x hx h=>by have:=hF x h;have:=Ek3.1 hx;omega
  refine A7 (Qa (B2 (Qd (C9 J (C2 Ar5 J J (by omega) (by omega)) (C9 J (E8 (vs:=(C4 (S.getD k 0))) J0 J (F4 _) hset J) (B5 J (B8 N0 J) ?_))))));intro b2 w2 hb2 hs2 hx2 hB2;have hr:=hr.u hx2;refine Pe J9 J ‹_› J J ?_;intro w3 hs3 hx3 hB2;have hr:=hr.q hx3 (by intro b hb hFb;have:=hF _ hFb;simp at hb;omega);have hB1:=hB1.q (hx2.j hx3) (by simp<;>omega);refine Qc (Qb (C9 J (E8 (vs:=(P3 (F6 (S.take k)).1)) Ei0 J (F4 _) hB1.cells hfl) (La J0 J ‹_› J J ?_)));refine Ca fb102 J (split_c (F6 (S.take k)).1 (S.getD k 0) hok.1 _) ?_;rintro _ w4 ⟨hx4,rfl⟩;have hr:=hr.u hx4;have hB1:=hB1.u hx4;refine Z 3 J (Pb (cs':=(P3 (T7 (F6 (S.take k)).1 (S.getD k 0)).1)) sz127 J J hB1 J (by rw [Y5];exact Ap8 _ _) (Dd8 _) (by rw [hfl];rfl) (by have:=Ap8 (F6 (S.take k)).1 (S.getD k 0);simp [P3,hok.1,this]) ?_);intro w5 hs5 hx5 hB1;have hC:=hC.step (((hx2.j hx3).j hx4).j hx5) (by simp<;>omega);have hr:=hr.q hx5 ‹_›;refine Zc 1 J (Qb (Ad J J (by omega) (Zc 1 J ⟨k+1,⟨rfl,(G2 J (by rw [Be9 S k hkn])),rfl,rfl,rfl,trivial⟩,?_,?_⟩)));exact ⟨hC,hr,by rw [Be9 S k hkn];exact hB1,hkn⟩;omega
 ·try simp at h1
  have hkk:k=S.length:=by omega
  subst hkk;rw [En0 (El1 _)] at hok hB1;rw [En0 (El1 _)];have hfl:(P3 (F6 S).1).length=256:=by rw [Y5];exact hok.1
  refine Xb (Qd (C9 J (E8 (vs:=(P3 (F6 S).1)) Ei0 J (F4 _) hB1.cells hfl) (Z 1 J (Ca fb103 J (bbuild_c (F6 S).1 (F6 S).2 hok.1 hok.2.1 hok.2.2 _) ?_))));rintro v9 w6 ⟨hx6,p,rfl,hI⟩;have hC:=hC.s0 hx6;exact Zc 1 J (A6 (B4 J J ⟨hC,p,rfl,hI.mono (fun y hy hl=>⟨by have:=hy.1;omega,hl,by simp⟩)⟩))
theorem Di1 (F:Nat→Prop) (p:Nat) (f:List Nat) (n:Nat) (w:World) (hI:IsBlk F w p f n):Calls P 41 #[.pointer (some ⟨p,0,none⟩)] w (Ret fun u w'=>u= .int .i64 (n:Nat)∧Chg [] w w'):=by
 obtain ⟨bs,h⟩:=hI;have hB0:=h.blk;have hnl:(P3 f).length=256:=by rw [Y5];exact h.len
 have hsl:=hB0.cells 256 (.slice (some ⟨bs,0,none⟩) n n) (by rw [Em2 (by omega),hnl];rfl)
 refine D4 Tryz.func41 J J (Qd (Zc 1 J (Qa (Qd (Z 1 J (C9 J (I0 Tryz.underlying81 J J) (Qc (A4 J (fun h0=>?_) (fun h0=>?_)))))))))
 ·try simp at h0
  all_goals cases h0
 ·try simp at h0
  exact A7 (Qd (Z 2 J (Fa Cd8 J (Lc o23 J hsl (Ln Tryz.underlying23 J (Zc 1 J (A6 (B4 J J ⟨rfl,A8 [] w⟩))))))))
theorem bof_c (F:Nat→Prop) (p:Nat) (f:List Nat) (n b:Nat) (hb:b<256) (w:World) (hI:IsBlk F w p f n):Calls P 48 #[.pointer (some ⟨p,0,none⟩),.int .u8 (b:Nat)] w (Ret fun u w'=>u= .int .i64 ((f.getD b 0:Nat):Int)∧Chg [] w w'):=by
 obtain ⟨bs,h⟩:=hI;have hB0:=h.blk;have hcell:=hB0.cells b (.int .i64 ((f.getD b 0:Nat):Int)) (by rw [Em6 (by rw [Y5,h.len];exact hb)];exact Y6 f b (by rw [h.len];exact hb))
 refine D4 Tryz.func48 J J (Qd (Zc 1 J (Qa (Qd (Z 1 J (C9 J (I0 Tryz.underlying81 J J) (Qc (A4 J (fun h0=>?_) (fun h0=>?_)))))))))
 ·try simp at h0
  all_goals cases h0
 ·try simp at h0
  exact A7 (Qd (Z 3 J (Fa fl129_0 J (C9 J (E6 Dq7 J J (by omega) (by omega)) (Lc o3 J hcell (Zc 1 J (A6 (B4 J J ⟨rfl,A8 [] w⟩))))))))
theorem bset_c (F:Nat→Prop) (p:Nat) (f:List Nat) (n i:Nat) (hi:i<n) (hn:n≤256) (w:World) (hI:IsBlk F w p f n) (hFw:∀ x,F x→x<w.heap.size):Calls P 75 #[.pointer (some ⟨p,0,none⟩),.int .i64 (i:Nat)] w (Ret fun u w'=>u= .agg (C4 (K3 f 256 i)).toArray∧Chg [] w w'):=by
 have hC:=A8 [] w;refine D4 Tryz.func75 J J (Qd (B5 J (B8 N0 J) ?_));intro b1 w1 hb1 hs1 hx1 hB1;have hC:=hC.s0 hx1;have hI:=hI.u hx1
 refine Qc (Qa (Qd (Z 3 J (C0 (d:=7) J (fun h1=>?_) (fun h1=>?_)))))
 ·try simp at h1
  all_goals omega
 ·try simp at h1
  refine Qu J (Z 1 J (Qu J (Z 1 J (Qu J (Ca fb41 J (Di1 F p f n _ hI) ?_)))));rintro _ w2 ⟨rfl,hx2⟩;have hC:=hC.s0 hx2;have hI:=hI.u hx2;have hB1:=hB1.u hx2
  refine Qu J (Zc 2 J (A4 J (fun h2=>?_) (fun h2=>?_)))
  ·try simp at h2
   all_goals omega
  ·try simp at h2
   obtain ⟨bs,h⟩:=hI;have hB0:=h.blk;have hBs:=h.sets;have hnl:(P3 f).length=256:=by rw [Y5];exact h.len
   have hbl:=Bw8 f n 256;have hsl:=hB0.cells 256 (.slice (some ⟨bs,0,none⟩) n n) (by rw [Em2 (by omega),hnl];rfl);have hbe:(V5 f n 256).getD i 0=K3 f 256 i:=by rw [Ek2,V5,El8,Em7 hi];rfl
   have hset:∀ j v,(C4 (K3 f 256 i))[j]?=some v→(World.cell? _ ⟨bs,0+(((i:Nat):Int)).toNat*4+j,none⟩=some v):=fun j v hj=>by
    have hj4:j<4:=(Em5.1 hj).1;rw [hBs.cell,El6,Ek9,O2 _ _ _ (by rw [hbl];exact hi) hj4,hbe];exact hj
   refine A7 (Qd (Z 2 J (Fa Cd8 J (Lc o23 J hsl (Z 1 J (C9 J (C2 Ar5 J J (by omega) (by omega)) (C9 J (E8 (vs:=(C4 (K3 f 256 i))) J0 J (F4 _) hset J) (Pe J9 J ‹_› J J ?_))))))));intro w3 hs3 hx3 hB1;have hC:=hC.step hx3 (by simp;omega);refine Qc (A6 (D5 J J (A5 J0 ‹_› J J) ?_));exact ⟨rfl,hC⟩
theorem bleast_c (F:Nat→Prop) (p:Nat) (f:List Nat) (n i:Nat) (hi:i<n) (hn:n≤256) (w:World) (hL:Laid w) (hI:IsBlk F w p f n) (hFw:∀ x,F x→x<w.heap.size):Calls P 42 #[.pointer (some ⟨p,0,none⟩),.int .i64 (i:Nat)] w (Ret fun u w'=>u= .tuple #[.int .u8 ((L8 (K3 f 256 i):Nat):Int),.bool (decide (K3 f 256 i≠0))]∧Chg [] w w'):=by
 have hC:=A8 [] w;refine D4 Tryz.func42 J J (Qd (Zc 2 J (Qd (Z 2 J (Ca fb75 J (bset_c F p f n i hi hn _ hI hFw) ?_)))));rintro _ w1 ⟨rfl,hx1⟩;have hL:=hL.u hx1;refine Ca fb74 J (Cx5 (K3 f 256 i) (Dq6 f i) _ hL) ?_;rintro _ w2 ⟨rfl,hx2⟩;have hC:=hC.s0 (hx1.s0 hx2);exact Zc 4 J (A6 (J1 J J J ⟨rfl,hC⟩))
section
section
variable {n:Nat} {ops:Array Oper} {S:World→Prop} {N:Env→World→Prop} {B:Nat→Env→World→Prop} {R:Env→World→Prop} {e:Env} {w:World}
variable {rest:List (Nat × Oper)} {d:Nat} {op:Op} {t:TypeId} {p:String} {af:Array Edge} {dst:Option Tmp} {g:Option (Nat × Bool)} {φ:World→Prop}
theorem info5:∃ i,P.info? 5=some i∧i.zero=some (.int .u8 0)∧i.size=1∧i.bytes=1:=by
 have h:((P.info? 5).map fun i=>(decide (i.size=1) && decide (i.bytes=1)))=some true:=by kernel_rfl
 have hz:(P.info? 5).bind (·.zero)=some (.int .u8 0):=by kernel_rfl
 obtain ⟨i,hi,h⟩:=Es7.1 h;obtain ⟨j,hj,hz⟩:=Eq9.1 hz;rw [hi] at hj;injection hj with hj
 subst hj;simp only [Ek6,Em0] at h;exact ⟨i,hi,hz,h.1,h.2⟩
theorem EP.appS2 {lo m c:Nat} {x y:Operand} {A:Option Addr} {cs:List Value} {s:ByteArray} (hd:Nat.blt d n=true) (hx:ev e x=some (.slice A m c)) (hy:ev e y=some (.string s)) (ho:Own w lo 5 1 A m c cs) (hl:m+s.size≤140737488355328) (hlo:lo≤w.heap.size)
  (h:∀ A' c' w',Own w' lo 5 1 A' (m+s.size) c' (cs++Lib.strCells s)→Chg (F7 A) w w'→EP P n ops S N B R rest ((d,.slice A' (m+s.size) c')::e) w'):
  EP P n ops S N B R ((2,⟨some d,.call { callee:=.builtin .append,args:= #[x,y],argTypes:= #[44,9] },t,p,af,none⟩)::rest) e w:=by
 obtain ⟨i,hi,hz,hs,hb⟩:=info5;obtain ⟨v',w',hrun,h2,h3,_⟩:=Lib.run_append_own_string (P:=P) w lo 44 9 t 5 i Tryz.underlying44 Tryz.underlying9 hi hz hs hb (.slice A m c) m cs ho s (by simp only [maxLen];omega) hl hlo
 have hv:∃ A' c',v'= .slice A' (m+s.size) c':=by
  rcases h2.2 with ⟨hv,hn⟩|⟨g,cap,cur,hv,_⟩
  ·exact ⟨none,0,by rw [hv];congr 1;omega⟩
  ·exact ⟨_,cap,hv⟩
 obtain ⟨A',c',rfl⟩:=hv
 have hc:Chg (F7 A) w w':=by
  have:=Bf1 h3
  cases A<;>simpa [Value.ownBlock,F7] using this
 exact Cz7 hd (fun a ha=>by simp [execOp,resolve,invoke,builtin,ha.ev hx,ha.ev hy,hrun]) (h A' c' w' h2 hc)
theorem Cz8 {τ τ' el:TypeId} {x y:Operand} {a:Addr} (hu:P.underlying τ=some (.pointer el)) (hi:(P.info? el).isSome=true) (hx:ev e x=some (.pointer (some a))) (hy:ev e y=some (.pointer (some a))):Does P n e ⟨dst,.binOp .neq τ x y τ',t,p,af,g⟩ φ (.bool false):=
 N4 hx hy J fun w _=>by
  obtain ⟨j,hj⟩:=Ep6.1 hi;exact Lib.run_neq_ptr_same w a hu hj
theorem Blk.shape {b:Nat} {cs:List Value} {τ:TypeId} (h:Blk w b cs τ):w.shape? b=some (τ,cs.length):=by
 simp [World.shape?,show w.heap[b]?=_ from h]
theorem Dr1 {src dst' el:TypeId} {x:Operand} {b:Nat} {cs:List Value} {τ:TypeId} (hs:P.underlying src=some (.pointer el)) (hd:P.underlying dst'=some .unsafePointer) (hi:(match P.info? el with|some i=>decide (i.size≠0)|none=>false)=true) (hx:ev e x=some (.pointer (some ⟨b,0,none⟩))) (hb:Blk w b cs τ) (hl:0<cs.length):
  Does P n e ⟨dst,.convert src dst' x,t,p,af,g⟩ (fun w'=>w'=w) (.pointer (some ⟨b,0,none⟩)):=fun a w' ha hw=>by
 subst hw
 cases hj:P.info? el with
 |none=>rw [hj] at hi;cases hi
 |some j=>
  rw [hj] at hi;simp [execOp,ha.ev hx,Lib.run_to_unsafe w' ⟨b,0,none⟩ hs hd hj (by simpa using hi) hb.shape hl]
theorem Dr4 {src dst' u:TypeId} {x:Operand} {b:Nat} {cs:List Value} {τ:TypeId} (hs:P.underlying src=some .unsafePointer) (hd:P.underlying dst'=some (.pointer u)) (hi:(P.info? u).isSome=true) (hx:ev e x=some (.pointer (some ⟨b,0,none⟩))) (hb:Blk w b cs τ) (hl:liesAt P P.depth τ (cs.length / P.cellsOf τ) 0 u 1=true):
  Does P n e ⟨dst,.convert src dst' x,t,p,af,g⟩ (fun w'=>w'=w) (.pointer (some ⟨b,0,none⟩)):=fun a w' ha hw=>by
 subst hw;obtain ⟨j,hj⟩:=Ep6.1 hi;simp [execOp,ha.ev hx,Lib.run_from_unsafe w' ⟨b,0,none⟩ hs hd hj hb.shape hl]
theorem Dy2 (v:Value) (w:World):(callFunc 166 #[v]).run P w= .ok (.value v) w:=by
 have h1:Extern.findNext Tryz.f166=none:=by
  have:(Extern.findNext Tryz.f166).isNone=true:=by kernel_rfl
  simpa using this
 rw [run_callFunc_extern Tryz.func166 (by kernel_rfl) (by kernel_rfl) h1 (e:=Extern.AbiNoEscape.same) (by kernel_rfl)];rw [Lib.run_noEscape];rfl
end
theorem lies174:liesAt P P.depth 174 (2 / P.cellsOf 174) 0 174 1=true:=by kernel_rfl
theorem is174:(P.info? 174).isSome=true:=by kernel_rfl
theorem sz174':(match P.info? 174 with|some i=>decide (i.size≠0)|none=>false)=true:=by kernel_rfl
theorem Chg.under {S:List Nat} {w w1 w2:World} {b:Nat} (h:Chg S w w1) (k:Below b w1 w2) (hb:w.heap.size≤b):Chg S w w2:=by
 obtain ⟨k1,k2,k3,k4,k5⟩:=k;exact ⟨k1.trans h.os,k2.trans h.tape,k3.trans h.output,En6 h.size k4,fun i hi hn=>by rw [k5 i (by omega)];exact h.same i hi hn⟩
end
theorem Cp0 (b:Nat) (sl:Value) (w:World) (hB0:Blk w b [.pointer none,sl] 174):Calls P 142 #[.pointer (some ⟨b,0,none⟩)] w (Ret fun u w'=>Chg [b] w w'∧Blk w' b [.pointer (some ⟨b,0,none⟩),sl] 174):=by
 have hC:=A8 [b] w;refine D4 Tryz.func142 J J (Qd (Z 2 J (Fa Cd5 J (Lb o172 J ‹_› (by rfl) ?_))));refine C9 J (I0 Tryz.underlying172 J J) (Qc (E3 (rfl) (Qb (Z 2 J (C9 J (Dr1 Tryz.underlying172 Tryz.underlying262 sz174' J hB0 (by simp)) ?_)))));refine C9 J (Dj3 J (fun w=>Dy2 _ w)) (C9 J (Dr4 Tryz.underlying262 Tryz.underlying172 is174 J hB0 lies174) (Z 1 J (Fa Cd5 J (Pe sz172 J ‹_› J J ?_))));intro w1 hs1 hx1 hB0;have hC:=hC.step hx1 (by simp;done);exact Qc (T5 J ⟨hC,hB0⟩)
theorem Cy4 (b:Nat) (sl:Value) (w:World) (hB0:Blk w b [.pointer (some ⟨b,0,none⟩),sl] 174):Calls P 142 #[.pointer (some ⟨b,0,none⟩)] w (Ret fun u w'=>Chg [b] w w'∧Blk w' b [.pointer (some ⟨b,0,none⟩),sl] 174):=by
 have hC:=A8 [b] w;refine D4 Tryz.func142 J J (Qd (Z 2 J (Fa Cd5 J (Lb o172 J ‹_› (by rfl) ?_))));refine C9 J (I0 Tryz.underlying172 J J) (Qc (E4 (rfl) (Qd (Z 2 J (Fa Cd5 J (Lb o172 J ‹_› (by rfl) ?_))))));exact Z 1 J (C9 J (Cz8 Tryz.underlying172 is174 J J) (Qc (E4 (rfl) (A7 (T5 J ⟨hC,hB0⟩)))))
def Ci6 (b:Nat) (pv:Value):Prop:=pv= .pointer none∨pv= .pointer (some ⟨b,0,none⟩)
theorem copy_c (b:Nat) (pv sl:Value) (w:World) (hp:Ci6 b pv) (hB0:Blk w b [pv,sl] 174):Calls P 142 #[.pointer (some ⟨b,0,none⟩)] w (Ret fun u w'=>Chg [b] w w'∧Blk w' b [.pointer (some ⟨b,0,none⟩),sl] 174):=by
 rcases hp with rfl|rfl
 ·exact Cp0 b sl w hB0
 ·exact Cy4 b sl w hB0
theorem wstr_c (b m c:Nat) (pv:Value) (A:Option Addr) (cs:List Value) (s:ByteArray) (w:World) (hp:Ci6 b pv) (hl:m+s.size≤1000000) (hB0:Blk w b [pv,.slice A m c] 174) (hO:Own w (b+1) 5 1 A m c cs):
  Calls P 108 #[.pointer (some ⟨b,0,none⟩),.string s] w (Ret fun u w'=>Chg (b::F7 A) w w'∧∃ A' c',Blk w' b [.pointer (some ⟨b,0,none⟩),.slice A' (m+s.size) c'] 174∧Own w' (b+1) 5 1 A' (m+s.size) c' (cs++Lib.strCells s)):=by
 have hC:=A8 (b::F7 A) w;have hOb:=hO.blk;have hbl:=hB0.lt;refine D4 Tryz.func108 J J (Qd (Zc 2 J (Qd (Z 1 J (Ca fb142 J (copy_c b pv _ _ hp hB0) ?_)))));rintro _ w1 ⟨hx1,hB0'⟩;have hz1:=hx1.size;have hO:=(by exact hO.q hx1 (by intro x hx;simp at hx;left;omega));have hB0:=hB0';clear hB0';have hC:=hC.step hx1 (fun x h=>.inl (by rw [Ek3.1 h];exact Em1 ..));refine Qc (Qd (Z 3 J (Fa Cd4 J (Lb o44 J ‹_› (by rfl) ?_))));refine Z 1 J (EP.appS2 J J J hO (by omega) (by omega) ?_);intro A' c' w9 hO9 hx9;have hB0:=hB0.q hx9 (fun h=>by have:=hOb b h;omega);have hC:=hC.step hx9 (fun x h=>.inl (Em8 _ h))
 replace hO:=hO9
 refine Z 1 J (Fa Cd4 J (Pe sz44 J ‹_› J J ?_));intro w2 hs2 hx2 hB0;have hO:=(by exact hO.q hx2 (by intro x hx;simp at hx;left;omega));have hC:=hC.step hx2 (by simp;done);exact Qc (Qd (Z 1 J (C9 J (E9 Tryz.underlying9 J) (Zc 2 J (A6 (J1 J J J ⟨hC,A',c',hB0,hO⟩))))))
theorem wbyte_c (b m c x:Nat) (pv:Value) (A:Option Addr) (cs:List Value) (w:World) (hp:Ci6 b pv) (hl:m+1≤1000000) (hB0:Blk w b [pv,.slice A m c] 174) (hO:Own w (b+1) 5 1 A m c cs):
  Calls P 110 #[.pointer (some ⟨b,0,none⟩),.int .u8 (x:Nat)] w (Ret fun u w'=>Chg (b::F7 A) w w'∧∃ A' c',Blk w' b [.pointer (some ⟨b,0,none⟩),.slice A' (m+1) c'] 174∧Own w' (b+1) 5 1 A' (m+1) c' (cs++[.int .u8 (x:Nat)])):=by
 have hC:=A8 (b::F7 A) w;have hOb:=hO.blk;have hbl:=hB0.lt;refine D4 Tryz.func110 J J (Qd (Zc 1 J (Qd (Z 1 J (Ca fb142 J (copy_c b pv _ _ hp hB0) ?_)))));rintro _ w1 ⟨hx1,hB0'⟩;have hz1:=hx1.size;have hO:=(by exact hO.q hx1 (by intro x hx;simp at hx;left;omega));have hB0:=hB0';clear hB0';have hC:=hC.step hx1 (fun x h=>.inl (by rw [Ek3.1 h];exact Em1 ..));have hin:∀ x∈F7 A,x∈b::F7 A∨w.heap.size≤x:=fun x h=>.inl (Em8 _ h)
 refine Qc (Qd (Z 3 J (Fa Cd4 J (Lb o44 J ‹_› (by rfl) ?_))));refine Z 1 J (B5 J (B7 Al4 Tryz.underlying44 zr5 J J J (by rfl)) ?_);intro b2 w2 hb2 hs2 hx2 hB2;have hO:=hO.u hx2;have hB0:=hB0.u hx2;have hC:=hC.s0 hx2;refine G1 J el44 J J hO (Blk.rd (F:=fun _=>True) ‹_› J trivial) (by rfl) (by omega) (by omega) ?_;intro A' c' w3 hO3 hx3 hA';have hB0:=hB0.q hx3 (by intro h;have:=hOb _ h;omega);have hC:=hC.step hx3 ‹_›
 replace hO:=hO3
 refine Z 1 J (Fa Cd4 J (Pe sz44 J ‹_› J J ?_));intro w4 hs4 hx4 hB0;have hO:=(by exact hO.q hx4 (by intro x hx;simp at hx;left;omega));have hC:=hC.step hx4 (by simp;done);exact Qc (Qd (Zc 1 J (A6 (B4 J J ⟨hC,A',c',hB0,hO⟩))))
def Ce8 (p:Nat):List UInt8:=if p<10 then [UInt8.ofNat (48+p)] else if p<100 then [UInt8.ofNat (48+p / 10),UInt8.ofNat (48+p % 10)] else [UInt8.ofNat (48+p / 100),UInt8.ofNat (48+p / 10 % 10),UInt8.ofNat (48+p % 10)]
def P1 (l:List Nat):List UInt8:=l.flatMap fun p=>Ce8 p++[32]
theorem Br6 (l:List Nat) (p:Nat):P1 (l++[p])=P1 l++(Ce8 p++[32]):=by simp [P1]
theorem Dh3 (p:Nat):(Ce8 p).length≤3:=by
 unfold Ce8
 split
 ·simp
 split<;>simp
theorem Dt4 (l:List Nat):(P1 l).length≤4*l.length:=by
 induction l with
 |nil=>exact El1 _
 |cons p r ih=>
  have:=Dh3 p;simp only [P1,Eo0,Ek5,En2,Eu6] at*;omega
theorem Ef2 {p:Nat} (h:p<1000):Lib.decDigits p=Ce8 p:=by
 unfold Ce8
 by_cases h1:p<10
 ·rw [Lib.decDigits,dif_pos h1,Ek1 h1]
 ·rw [Lib.decDigits,dif_neg h1,Ek0 h1]
  by_cases h2:p<100
  ·rw [Lib.decDigits,dif_pos (by omega),Ek1 h2];rfl
  ·rw [Lib.decDigits,dif_neg (by omega),Lib.decDigits,dif_pos (by omega),Ek0 h2];rw [Nat.div_div_eq_div_mul]
   rfl
theorem g10i:Tryz.prog.globalNamed "internal/strconv.uint64pow10"=some 1:=by kernel_rfl
theorem grow_chg (w:World) (k:Nat) (os:Array Obj):Chg [] w (Go.Sort.grow (w.drewN k) os):=
 ⟨rfl,rfl,rfl,by show w.heap.size≤(w.heap++os).size;rw [Array.size_append];omega,fun b hb _=>by show (w.heap++os)[b]?=w.heap[b]?;rw [Array.getElem?_append_left hb]⟩
theorem Cm4 (p:Nat) (h:p<1000) (w:World) (hL:Laid w):Calls P 109 #[.int .i64 (p:Nat)] w (Ret fun u w'=>u= .string ⟨(Ce8 p).toArray⟩∧Chg [] w w'):=by
 have htab:Lib.TabIs Tryz.prog w "internal/strconv.uint64pow10" .u64 Lib.pow10Tab:=by
  obtain ⟨a,b,hh⟩:=hL.h10;unfold Lib.TabIs World.var?;rw [g10i];show (match w.heap[1]? with|some (.cells cs _ _)=>some cs|_=>none)=_;rw [hh]
 refine (Tryz.strconv_Itoa (p:Int) (by omega) (by omega) w htab).mono fun e w' hh=>?_
 obtain ⟨rfl,k,os,rfl⟩:=hh;refine ⟨?_,grow_chg w k os⟩;rw [← Ef2 h];unfold Lib.itoa;rw [Ek0 (by omega),Ek9]
theorem Eg9 (b m c:Nat) (pv:Value) (A:Option Addr) (l:List UInt8) (w:World) (hp:Ci6 b pv) (hm:m=l.length) (hB0:Blk w b [pv,.slice A m c] 174) (hO:Own w (b+1) 5 1 A m c (Lib.byteCells l)):
  Calls P 111 #[.pointer (some ⟨b,0,none⟩)] w (Ret fun u w'=>u= .string ⟨l.toArray⟩∧Below b w w'):=by
 have hI:Lib.IsBuilder 174 5 b b (Lib.byteCells l) w:=by
  have key:Lib.BuilderAt 174 5 b b pv (Lib.byteCells l) w:=by
   refine ⟨El1 _,.slice A m c,by simpa [Blk] using hB0,?_,?_⟩
   ·have:=hO.lower (Nat.le_succ b);rw [Lib.byteCells_length,← hm];exact this
   ·intro h
    have:=hO.blk b (by cases A with
     |none=>simp [Value.ownBlock] at h
     |some a=>simpa [Value.ownBlock,F7,eq_comm] using h)
    omega
  rcases hp with rfl|rfl
  ·exact .inl key
  ·exact .inr key
 exact (Tryz.Builder_String_any b b l w hI (Nat.le_of_lt hB0.lt)).mono fun e w' hh=>by obtain ⟨rfl,h⟩:=hh;exact ⟨rfl,h⟩
theorem text_c (l:List Nat) (hl:∀ p∈l,p<1000) (hn:l.length≤1000) (F:Nat→Prop) (A:Option Addr) (c:Nat) (w:World) (hL0:Laid w) (hF:∀ x,F x→x<w.heap.size) (hr:Rd F w 1 A l.length (P3 l)):
  Calls P 80 #[.slice A l.length c] w (Ret fun u w'=>u= .string ⟨(P1 l).toArray⟩∧Chg [] w w'):=by
 have hC:=A8 [] w;refine D4 Tryz.func80 J J (Qd (Zc 1 J (Qd (B5 J (B8 zr174 J) ?_))));intro b1 w1 hb1 hs1 hx1 hB1;have hC:=hC.s0 hx1;have hr:=hr.u hx1
 refine Qc (Qa (Qd (Z 1 J (Ln Tryz.underlying24 J (Zc 1 J (B2 (D8 (σ:=Nat × Value × Option Addr × Nat) (fun (i,pv,A',c')=>[(3,.pointer (some ⟨b1,0,none⟩)),(6,.slice A l.length c),(7,.int .i64 (l.length:Nat)),(8,.int .i64 i)]) (fun (i,pv,A',c') wr=>Chg [] w wr∧Rd F wr 1 A l.length (P3 l)∧Blk wr b1 [pv,.slice A' (P1 (l.take i)).length c'] 174∧Own wr (b1+1) 5 1 A' (P1 (l.take i)).length c' (Lib.byteCells (P1 (l.take i)))∧Ci6 b1 pv∧i≤l.length) (fun (i,pv,A',c') wr=>l.length - i) (0,.pointer none,none,0) (sb J) ?_ ?_)))))))
 ·exact ⟨hC,hr,hB1,Own.nil _ _ _ _,.inl J,El0 _⟩
 rintro ⟨i,pv,A',c'⟩ w9 ⟨hC,hr,hB1,hO,hp,hi⟩
 refine Qd (Zc 1 J (Qa (A4 J (fun h1=>?_) (fun h1=>?_))))
 ·try simp at h1
  have hin:i<l.length:=by omega
  have hpv:=hl _ (G9 l 0 i hin);have hA:∃ g off,A=some ⟨g,off,none⟩:=by obtain ⟨g,off,h,_⟩:=hr.at_ (by omega);exact ⟨g,off,h⟩
  obtain ⟨g,off,rfl⟩:=hA;have hOb:=hO.blk
  have hFn:∀ x∈b1::F7 A',¬ F x:=fun x hx h=>by
   have:=hF x h
   rcases Eo4.1 hx with rfl|hx
   ·omega
   ·have:=hOb x hx;omega
  have hCn:∀ x∈b1::F7 A',x∈([]:List Nat)∨w.heap.size≤x:=fun x hx=>by
   rcases Eo4.1 hx with rfl|hx
   ·right;omega
   ·right;have:=hOb x hx;omega
  refine A7 (Qa (B2 (Qd (C9 J (B0 T8 J J (by omega) (by omega)) (Lc o3 J (hr.one (Y6 l i hin)).2 ?_)))))
  try have hlB1:=hB1.lt
  have htl:=Dt4 (l.take i);have htl2:=List.length_take_le i l;have hdl:=Dh3 (l.getD i 0);refine Zc 1 J (Qd (Z 1 J (Ca fb109 J (Cm4 (l.getD i 0) hpv _ (hL0.u hC)) ?_)));rintro _ w2 ⟨rfl,hx2⟩;have hC:=hC.s0 hx2;have hr:=hr.u hx2;have hB1:=hB1.u hx2;have hO:=hO.u hx2;refine Ca fb108 J (wstr_c b1 _ _ pv A' _ ⟨(Ce8 (l.getD i 0)).toArray⟩ _ hp (by show (P1 (l.take i)).length+(Ce8 (l.getD i 0)).length≤_;omega) hB1 hO) ?_;rintro v9 w3 ⟨hx3,A2,c2,hB2,hO2⟩;have hC:=hC.step hx3 ‹_›;have hr:=hr.q hx3 ‹_›;have hO2b:=hO2.blk
  have hFn2:∀ x∈b1::F7 A2,¬ F x:=fun x hx h=>by
   have:=hF x h
   rcases Eo4.1 hx with rfl|hx
   ·omega
   ·have:=hO2b x hx;omega
  have hCn2:∀ x∈b1::F7 A2,x∈([]:List Nat)∨w.heap.size≤x:=fun x hx=>by
   rcases Eo4.1 hx with rfl|hx
   ·right;omega
   ·right;have:=hO2b x hx;omega
  refine Qc (Qb (Ca fb110 J (wbyte_c b1 _ _ 32 _ A2 _ _ (.inr J) (by show (P1 (l.take i)).length+(Ce8 (l.getD i 0)).length+1≤_;omega) hB2 hO2) ?_));rintro v8 w4 ⟨hx4,A3,c3,hB3,hO3⟩;have hC:=hC.step hx4 ‹_›;have hr:=hr.q hx4 ‹_›;refine Qc (Qb (Ad J J (by omega) (Zc 1 J ⟨(i+1,.pointer (some ⟨b1,0,none⟩),A3,c3),sb J,?_,?_⟩)));have hsn:l.take (i+1)=l.take i++[l.getD i 0]:=by rw [Ep9,Ek4 hin,Ek2,Ek4 hin];rfl
  have hlen:(P1 (l.take (i+1))).length=(P1 (l.take i)).length+(⟨(Ce8 (l.getD i 0)).toArray⟩:ByteArray).size+1:=by
   show _=(P1 (l.take i)).length+(Ce8 (l.getD i 0)).length+1;rw [hsn,Br6,Ek5,Ek5]
   rfl
  have he:Lib.byteCells (P1 (l.take (i+1)))=Lib.byteCells (P1 (l.take i))++Lib.strCells ⟨(Ce8 (l.getD i 0)).toArray⟩++[.int .u8 (32:Nat)]:=by
   rw [hsn,Br6];simp [Lib.byteCells,Lib.strCells]
  refine ⟨hC,hr,by rw [hlen];exact hB3,?_,.inr J,hin⟩;rw [hlen,he];exact hO3;show l.length - (i+1)<l.length - i;omega
 ·try simp at h1
  have hkk:i=l.length:=by omega
  subst hkk;rw [En0 (El1 _)] at hO hB1;refine Xb (Qd (Ca fb111 J (Eg9 b1 _ _ pv A' (P1 l) _ hp J hB1 hO) ?_));rintro _ _ ⟨rfl,hbel⟩;have hC:=hC.under hbel (by omega);exact Zc 1 J (A6 (B4 J J ⟨rfl,hC⟩))
def sk (l:List UInt8):Value:=.string ⟨l.toArray⟩
theorem Dt9 (a b:List UInt8):((⟨a.toArray⟩:ByteArray)==⟨b.toArray⟩)=decide (a=b):=by
 show (a.toArray==b.toArray)=_;rw [El4,beq_iff_eq,El7];simp
theorem sk_law {k:TypeId} (hk:P.underlying k=some .string):KL P k sk where
 check:=fun e a w=>by unfold Instr.checkKey sk;simp [run_underlying hk]
 find:=fun a L es w h=>by
  have key:∀ (L:List (List UInt8 × Int)) (es:List MapEntry) (i:Nat),es.map (fun x=>(x.key,x.val))=kvs sk L→Instr.findNow .string (sk a) es i=some ((asc L i a).map fun q=>(q.1,.int .i64 q.2)):=by
   intro L
   induction L with
   |nil=>intro es i h;simp [kvs] at h;subst h;rfl
   |cons p r ih=>
    intro es i h
    cases es with
    |nil=>simp [kvs] at h
    |cons x es=>
     simp only [En3,kvs,Eu7,Er8] at h;obtain ⟨⟨h1,h2⟩,h3⟩:=h;simp only [Instr.findNow,h1,h2,asc]
     by_cases hc:a=p.1
     ·rw [Ek1 hc]
      have:Instr.sameNow .string (sk a) (sk p.1)=some true:=by
       show some ((⟨a.toArray⟩:ByteArray)==⟨p.1.toArray⟩)=_;rw [Dt9];simp [hc]
      simp [this]
     ·rw [Ek0 hc]
      have:Instr.sameNow .string (sk a) (sk p.1)=some false:=by
       show some ((⟨a.toArray⟩:ByteArray)==⟨p.1.toArray⟩)=_;rw [Dt9];simp [hc]
      simp only [this];exact ih es (i+1) h3
  simp [Instr.findKey,run_underlying hk,key L es 0 h]
 same:=fun a=>by
  unfold Instr.sameBits sk;show ((⟨a.toArray⟩:ByteArray)==⟨a.toArray⟩)=true;rw [Dt9];simp
structure St where
 l:List Nat
 word:List Nat
 next:List Nat
 meant:Bool
 dead:Bool
deriving DecidableEq,Inhabited
def As7 (w:List Nat):ByteArray:=⟨(w.map UInt8.ofNat).toArray⟩
def Ch3 (w:List Nat):Value:=.string (As7 w)
theorem Af6 (w:List Nat):(As7 w).size=w.length:=by show ((w.map UInt8.ofNat).toArray).size=_;simp
theorem Ad6 (a b:List Nat):As7 a++As7 b=As7 (a++b):=by
 apply ByteArray.ext;simp [As7,ByteArray.append_eq,ByteArray.data_append]
theorem Ag0 (w:List Nat) (h:∀ b∈w,b<256):B6 (As7 w)=w:=by
 unfold B6 As7;simp only [List.map_map]
 conv=>rhs;rw [← List.map_id w]
 apply Eq3;intro b hb;have:=h b hb;simp;omega
structure DE where
 k:Kn
 q:Wst
 f:List Nat
 nB:Nat
 bytes:List Nat
 budget:Nat
structure DS where
 l:List St
 met:List (List UInt8 × Int)
 full:Bool
def Cn5:List UInt8:=[102,105,114,115,116]
def R4 (E:DE) (D:DS) (name:List UInt8) (s:St):Nat × DS:=
 match S9 D.met name with
 |some v=>(v.toNat,D)
 |none=>if E.budget≤D.l.length then (0,{ D with full:=true }) else (D.l.length,{ D with met:=Ba4 D.met name (D.l.length:Nat),l:=D.l++[s] })
def I1 (E:DE) (l:List St) (n b:Nat):List Nat:=if n=0 then W9 E.k E.q b else Ar7 E.q (l.getD n default).l b
def N5 (D:DS) (n v:Nat):DS:={ D with l:=D.l.set n { D.l.getD n default with next:=(D.l.getD n default).next++[v] } }
def Ab0 (E:DE) (l:List St) (n b:Nat):St:=⟨I1 E l n b,(l.getD n default).word++[b],[],Cy0 E.k E.q (I1 E l n b),false⟩
def L0 (E:DE) (n:Nat) (D:DS) (b:Nat):DS:=
 let m:=R4 E D (P1 (I1 E D.l n b)) (Ab0 E D.l n b)
 N5 m.2 n m.1
def Cn9 (E:DE) (n:Nat) (D:DS):DS:=E.bytes.foldl (L0 E n) D
def U8 (E:DE):Nat→Nat→DS→DS
 |0,_,D=>D
 |f+1,n,D=>if n<D.l.length∧D.full=false then U8 E f (n+1) (Cn9 E n D) else D
def O5 (E:DE):DS:=U8 E (E.budget+1) 0 (R4 E ⟨[],[],false⟩ Cn5 ⟨[],[],[],decide (0<E.k.void),false⟩).2
def Dt3 (l:List St) (s:St):Bool:=s.next.any fun j=> !(l.getD j default).dead
def T3 (x:List St × Bool) (i:Nat):List St × Bool:=
 if (x.1.getD i default).dead && Dt3 x.1 (x.1.getD i default) then (x.1.set i { x.1.getD i default with dead:=false },true) else x
def Ao1 (l:List St) (k:Nat):List St × Bool:=(List.range k).foldl T3 (l,false)
def Cb2:Nat→List St→List St
 |0,l=>l
 |f+1,l=>if (Ao1 l l.length).2 then Cb2 f (Ao1 l l.length).1 else (Ao1 l l.length).1
def Bq9 (l:List St):List St:=l.map fun s=>{ s with dead:= !s.meant }
def Cb1 (l:List St):List St:=Cb2 (l.length+1) (Bq9 l)
def Ak1 (f:List Nat) (n:Nat):List Nat:=(List.range n).map fun i=>L8 (K3 f 256 i)
def Bv9 (k:Kn) (q:Wst) (budget:Nat):DE:=
 let x:=F6 q.S
 ⟨k,q,x.1,x.2,Ak1 x.1 x.2,budget⟩
def Dp2 (k:Kn) (q:Wst) (budget:Nat):Option (List St):=
 let D:=O5 (Bv9 k q budget)
 if D.full then none else some (Cb1 D.l)
structure StM where
 p:Nat
 A:Option Addr
 c:Nat
 A2:Option Addr
 c2:Nat
deriving Inhabited
def StM.fp (m:StM):List Nat:=m.p::(F7 m.A++F7 m.A2)
theorem P9 {m:StM} {x:Nat}:x∈m.fp↔x=m.p∨x∈F7 m.A∨x∈F7 m.A2:=by simp [StM.fp]
def stC (s:St) (m:StM):List Value:=[.slice m.A s.l.length m.c,Ch3 s.word,.slice m.A2 s.next.length m.c2,.bool s.meant,.bool s.dead]
structure StOk (w:World) (s:St) (m:StM):Prop where
 blk:Blk w m.p (stC s m) 91
 rl:Own w 0 3 1 m.A s.l.length m.c (P3 s.l)
 on:Own w 0 3 1 m.A2 s.next.length m.c2 (P3 s.next)
 s2:∀ x∈F7 m.A,x∉F7 m.A2
theorem StOk.q {S:List Nat} {w w':World} {s:St} {m:StM} (h:StOk w s m) (k:Chg S w w') (hS:∀ x∈m.fp,x∉S):StOk w' s m:=
 ⟨h.blk.q k (hS _ (P9.2 (.inl J))),h.rl.keep k (fun x hx=>hS x (P9.2 (.inr (.inl hx)))),h.on.keep k (fun x hx=>hS x (P9.2 (.inr (.inr hx)))),h.s2⟩
theorem StOk.lt {w:World} {s:St} {m:StM} (h:StOk w s m):∀ x∈m.fp,x<w.heap.size:=fun x hx=>by
 rcases P9.1 hx with rfl|hx|hx
 ·exact h.blk.lt
 ·exact (h.rl.blk x hx).2
 ·exact (h.on.blk x hx).2
structure StsOk (w:World) (l:List St) (ms:List StM):Prop where
 len:ms.length=l.length
 ok:∀ i,i<l.length→StOk w (l.getD i default) (ms.getD i default)
 sep:∀ i j,i<l.length→j<l.length→i≠j→∀ x∈(ms.getD i default).fp,x∉(ms.getD j default).fp
def inSts (ms:List StM) (x:Nat):Prop:=∃ i,i<ms.length∧x∈(ms.getD i default).fp
theorem StsOk.q {S:List Nat} {w w':World} {l:List St} {ms:List StM} (h:StsOk w l ms) (k:Chg S w w') (hS:∀ x∈S,¬ inSts ms x):StsOk w' l ms:=
 ⟨h.len,fun i hi=>(h.ok i hi).q k (fun x hx hm=>hS x hm ⟨i,by rw [h.len];exact hi,hx⟩),h.sep⟩
theorem StsOk.u {w w':World} {l:List St} {ms:List StM} (h:StsOk w l ms) (k:Chg [] w w'):StsOk w' l ms:=h.q k (by simp)
theorem StsOk.lt {w:World} {l:List St} {ms:List StM} (h:StsOk w l ms) {x:Nat} (hx:inSts ms x):x<w.heap.size:=by
 obtain ⟨i,hi,hx⟩:=hx;exact (h.ok i (by rw [← h.len];exact hi)).lt x hx
theorem Ai9 {α:Type} (l:List α) (n i:Nat) (v d:α) (hn:n<l.length):(l.set n v).getD i d=if i=n then v else l.getD i d:=by
 rw [Ek2,En1]
 by_cases h:n=i
 ·subst h;rw [Ek1 J,Ek1 J,Ek1 hn];rfl
 ·rw [Ek0 h,Ek0 (Ne.symm h),Ek2]
theorem Z5 {α:Type} (l:List α) (i:Nat) (v d:α) (hi:i≤l.length):(l++[v]).getD i d=if i=l.length then v else l.getD i d:=by
 rw [Ek2,List.getElem?_append]
 by_cases h:i=l.length
 ·subst h;rw [Ek0 (by omega),Ek1 J];simp
 ·rw [Ek1 (by omega),Ek0 h,Ek2]
theorem StsOk.upd {S:List Nat} {w w':World} {l:List St} {ms:List StM} {n:Nat} {s':St} {m':StM} (h:StsOk w l ms) (hn:n<l.length) (k:Chg S w w') (hS:∀ x∈S,x∈(ms.getD n default).fp) (hs:StOk w' s' m') (hfp:∀ x∈m'.fp,x∈(ms.getD n default).fp∨w.heap.size≤x):
  StsOk w' (l.set n s') (ms.set n m'):=by
 have hm:n<ms.length:=by rw [h.len];exact hn
 refine ⟨by simp [h.len],fun i hi=>?_,fun i j hi hj hij x hx=>?_⟩
 ·rw [Et8] at hi;rw [Ai9 _ _ _ _ _ hn,Ai9 _ _ _ _ _ hm]
  by_cases hin:i=n
  ·rw [Ek1 hin,Ek1 hin];exact hs
  ·rw [Ek0 hin,Ek0 hin];exact (h.ok i hi).q k (fun x hx hm=>h.sep i n hi hn hin x hx (hS x hm))
 ·rw [Et8] at hi hj;rw [Ai9 _ _ _ _ _ hm] at hx ⊢
  by_cases hin:i=n
  ·rw [Ek1 hin] at hx;rw [Ek0 (by omega)]
   rcases hfp x hx with h1|h1
   ·exact h.sep n j hn hj (by omega) x h1
   ·intro h2;have:=(h.ok j hj).lt x h2;omega
  ·rw [Ek0 hin] at hx
   by_cases hjn:j=n
   ·rw [Ek1 hjn];intro h2
    rcases hfp x h2 with h1|h1
    ·exact h.sep i n hi hn hin x hx h1
    ·have:=(h.ok i hi).lt x hx;omega
   ·rw [Ek0 hjn];exact h.sep i j hi hj hij x hx
theorem StsOk.snoc {w:World} {l:List St} {ms:List StM} {s:St} {m:StM} (h:StsOk w l ms) (hs:StOk w s m) (hfp:∀ x∈m.fp,¬ inSts ms x):StsOk w (l++[s]) (ms++[m]):=by
 refine ⟨by simp [h.len],fun i hi=>?_,fun i j hi hj hij x hx=>?_⟩
 ·simp at hi;rw [Z5 _ _ _ _ (by omega),Z5 _ _ _ _ (by rw [h.len];omega),h.len]
  by_cases h1:i=l.length
  ·rw [Ek1 h1,Ek1 h1];exact hs
  ·rw [Ek0 h1,Ek0 h1];exact h.ok i (by omega)
 ·simp at hi hj;rw [Z5 _ _ _ _ (by rw [h.len];omega),h.len] at hx ⊢
  by_cases h1:i=l.length
  ·rw [Ek1 h1] at hx;rw [Ek0 (by omega)];exact fun h2=>hfp x hx ⟨j,by rw [h.len];omega,h2⟩
  ·rw [Ek0 h1] at hx
   by_cases h2:j=l.length
   ·rw [Ek1 h2];exact fun h3=>hfp x h3 ⟨i,by rw [h.len];omega,hx⟩
   ·rw [Ek0 h2];exact h.sep i j (by omega) (by omega) hij x hx
theorem StsOk.offBlk {w:World} {l:List St} {ms:List StM} (h:StsOk w l ms) {b:Nat} {cs:List Value} {τ:TypeId} (hb:Blk w b cs τ) (h1:τ≠91) (h3:τ≠3):∀ x∈[b],¬ inSts ms x:=by
 rintro x hx ⟨i,hi,hm⟩;rw [Ek3] at hx;subst hx;have hk:=h.ok i (by rw [← h.len];exact hi)
 rcases P9.1 hm with e|e|e
 ·exact hb.ne hk.blk h1 e
 ·exact hk.rl.offBlk hb (Ne.symm h3) x e (by simp)
 ·exact hk.on.offBlk hb (Ne.symm h3) x e (by simp)
theorem StsOk.offMp {w:World} {l:List St} {ms:List StM} (h:StsOk w l ms) {b:Nat} (hb:∃ es clock,w.heap[b]?=some (.map es clock)):∀ x∈[b],¬ inSts ms x:=by
 rintro x hx ⟨i,hi,hm⟩;rw [Ek3] at hx;subst hx;have hk:=h.ok i (by rw [← h.len];exact hi)
 rcases P9.1 hm with e|e|e
 ·obtain ⟨es,clock,hb⟩:=hb;have:=hk.blk;rw [← e] at this;rw [show w.heap[x]?=_ from this] at hb
  cases hb
 ·exact hk.rl.offMp hb x e (by simp)
 ·exact hk.on.offMp hb x e (by simp)
theorem StsOk.offOwn {w:World} {l:List St} {ms:List StM} (h:StsOk w l ms) {lo:Nat} {el:TypeId} {sz n c:Nat} {A:Option Addr} {cs:List Value} (ho:Own w lo el sz A n c cs) (h1:el≠91) (h3:el≠3):∀ x∈F7 A,¬ inSts ms x:=by
 rintro x hx ⟨i,hi,hm⟩;have hk:=h.ok i (by rw [← h.len];exact hi)
 rcases P9.1 hm with e|e|e
 ·exact ho.offBlk hk.blk h1 x hx (by rw [e];simp)
 ·exact hk.rl.apart ho (Ne.symm h3) x e hx
 ·exact hk.on.apart ho (Ne.symm h3) x e hx
def Cj4 (ms:List StM):List Value:=ms.map fun m=>.pointer (some ⟨m.p,0,none⟩)
theorem W2 (ms:List StM) (i:Nat) (h:i<ms.length):(Cj4 ms)[i]?=some (.pointer (some ⟨(ms.getD i default).p,0,none⟩)):=by
 simp [Cj4,Ek4 h,Ek2]
def dC (pa pb:Nat) (E:DE) (D:DS) (Ab:Option Addr) (cb:Nat) (Al:Option Addr) (cl bm:Nat):List Value:=
 [.pointer (some ⟨pa,0,none⟩),.pointer (some ⟨pb,0,none⟩),.slice Ab E.bytes.length cb,.slice Al D.l.length cl,.map (some bm),.int .i64 E.budget,.bool D.full]
structure DOk (F:Nat→Prop) (w:World) (p pa pb:Nat) (E:DE) (D:DS) (Ab:Option Addr) (cb:Nat) (Al:Option Addr) (cl bm:Nat) (ms:List StM):Prop where
 blk:Blk w p (dC pa pb E D Ab cb Al cl bm) 86
 aut:IsAut F w pa E.k E.q
 bl:IsBlk F w pb E.f E.nB
 hF:∀ x,F x→x<bm
 ob:Own w (p+1) 5 1 Ab E.bytes.length cb (bys E.bytes)
 ol:Own w (p+1) 92 1 Al D.l.length cl (Cj4 ms)
 mp:Mp sk w bm D.met
 bp:bm<p
 sts:StsOk w D.l ms
 slo:∀ x,inSts ms x→p<x
 mv:∀ x∈D.met,0≤x.2∧x.2<(D.l.length:Nat)
 lb:D.l.length≤E.budget
theorem Cb8 {w:World} {l:List St} {ms:List StM} (h:StsOk w l ms) {i x:Nat} (hi:i<l.length) (hx:x∈(ms.getD i default).fp):inSts ms x:=⟨i,by rw [h.len];exact hi,hx⟩
theorem one_sts {w:World} {s:St} {m:StM} (h:StOk w s m):StsOk w [s] [m]:=by
 refine ⟨rfl,fun i hi=>?_,fun i j hi hj hij=>?_⟩
 ·simp at hi;subst hi;exact h
 ·simp at hi hj;omega
theorem StsOk.one {w:World} {s:St} {m:StM} (h:StsOk w [s] [m]):StOk w s m:=h.ok 0 (by simp)
theorem meet_c (F:Nat→Prop) (p pa pb:Nat) (E:DE) (D:DS) (Ab:Option Addr) (cb:Nat) (Al:Option Addr) (cl bm:Nat) (ms:List StM) (name:List UInt8) (s:St) (m:StM) (w:World) (hb:E.budget≤1000000)
  (hD:DOk F w p pa pb E D Ab cb Al cl bm ms) (hs:StOk w s m) (hm:∀ x∈m.fp,p<x∧¬ inSts ms x):
  Calls P 76 #[.pointer (some ⟨p,0,none⟩),sk name,.pointer (some ⟨m.p,0,none⟩)] w (Ret fun u w'=>Chg (p::bm::F7 Al) w w'∧∃ Al' cl' ms',DOk F w' p pa pb E (R4 E D name s).2 Ab cb Al' cl' bm ms'∧u= .int .i64 ((R4 E D name s).1:Nat)∧(ms'=ms∨ms'=ms++[m])∧StOk w' s m):=by
 have hC:=A8 (p::bm::F7 Al) w;obtain ⟨hB0,hA,hI,hF,hOy,hO,hM,hbp,hT,hslo,hmv,hlb⟩:=hD;have hN:=one_sts hs;have hOb:=hO.blk;have hbl:=hB0.lt;have hyA:=hOy.apart hO (by decide);have hT1:=hT.offMp hM.is;have hT2:=hT.offBlk hB0 (by decide) (by decide);have hT3:=hT.offOwn hO (by decide) (by decide);have hN1:=hN.offMp hM.is;have hN2:=hN.offBlk hB0 (by decide) (by decide);have hN3:=hN.offOwn hO (by decide) (by decide);have hc3:∀ x∈F7 Al,x∈p::bm::F7 Al∨w.heap.size≤x:=fun x hx=>by simp [hx]
 refine D4 Tryz.func76 J J (Qd (Zc 1 J (Qd (Z 2 J (Fa fl86_4 J (Lb o83 J ‹_› (by rfl) ?_))))))
 refine Z 1 J (C9 J (Bp8 (sk_law Tryz.underlying9) mp83 zr3 J J hM (F4 _)) (Zc 5 J (Qa (Qd (Zc 1 J (A4 J (fun h1=>?_) (fun h1=>?_)))))))
 ·try simp at h1
  obtain ⟨v,hv⟩:=Ep6.1 h1;have hE:R4 E D name s=(v.toNat,D):=by unfold R4;rw [hv]
  have hvr:=hmv _ (P4 hv);refine Qd (Zc 2 J (A6 (B4 J J ?_)));rw [hE];refine ⟨hC,Al,cl,ms,⟨hB0,hA,hI,hF,hOy,hO,hM,hbp,hT,hslo,hmv,hlb⟩,J4 ?_,.inl J,hN.one⟩;rw [hv];simp only at hvr;show v=_;omega
 ·try simp at h1
  have hno:S9 D.met name=none:=by simpa using h1
  refine A7 (Qa (Qa (C8 (S:=[]) 9 [(0,0),(0,1),(0,2),(0,3),(0,4),(0,5),(0,6),(0,7),(0,8),(2,9)] mo (by kernel_rfl) ?_)));intro w1 hx1 hh1;have hC:=hC.s0 hx1;have hB0:=hB0.u hx1;have hA:=hA.u hx1;have hI:=hI.u hx1;have hOy:=hOy.u hx1;have hO:=hO.u hx1;have hM:=hM.u hx1;have hT:=hT.u hx1;have hN:=hN.u hx1;refine Z 2 J (Fa Ac6 J (D6 J (B3 o84 J ‹_› (by simp;done) (by rfl)) ?_));refine Ln Tryz.underlying84 J (Z 2 J (Fa fl86_5 J (D6 J (B3 o3 J ‹_› (by simp;done) (by rfl)) ?_)))
  refine Zc 1 J (A4 J (fun h2=>?_) (fun h2=>?_))
  ·try simp at h2
   have hE:R4 E D name s=(0,{ D with full:=true }):=by unfold R4;rw [hno];simp only;rw [Ek1 (by omega)]
   refine Qd (Z 2 J (Fa Ec8 J (Pe sz4 J ‹_› J J ?_)));intro w2 hs2 hx2 hB0;have hC:=hC.step hx2 (by simp;done);have hA:=hA.q hx2 (by intro b hb hFb;have:=hF _ hFb;simp at hb;omega);have hI:=hI.q hx2 (by intro b hb hFb;have:=hF _ hFb;simp at hb;omega);have hOy:=(by exact hOy.q hx2 (by intro x hx;simp at hx;left;omega));have hO:=(by exact hO.q hx2 (by intro x hx;simp at hx;left;omega));have hM:=hM.q hx2 (by simp;omega);have hT:=hT.q hx2 ‹_›;have hN:=hN.q hx2 ‹_›;refine Qc (Qd (Zc 1 J (A6 (B4 J J ?_))));rw [hE];exact ⟨hC,Al,cl,ms,⟨hB0,hA,hI,hF,hOy,hO,hM,hbp,hT,hslo,hmv,hlb⟩,rfl,.inl J,hN.one⟩
  ·try simp at h2
   have hE:R4 E D name s=(D.l.length,{ D with met:=Ba4 D.met name (D.l.length:Nat),l:=D.l++[s] }):=by unfold R4;rw [hno];simp only;rw [Ek0 (by omega)]
   refine A7 (Qd (Z 2 J (Fa Ac6 J (Lb o84 J ‹_› (by rfl) ?_))));refine Ln Tryz.underlying84 J (Zc 1 J (Qd (Z 2 J (Fa fl86_4 J (Lb o83 J ‹_› (by rfl) ?_)))));refine Z 2 J (Bp6 (a:=name) (Or.inl J) (sk_law Tryz.underlying9) mp83 J J J hM ?_);intro w3 hs3 hx3 hM3;have hB0:=hB0.q hx3 (by simp;omega);have hA:=hA.q hx3 (by intro b hb hFb;have:=hF _ hFb;simp at hb;omega);have hI:=hI.q hx3 (by intro b hb hFb;have:=hF _ hFb;simp at hb;omega);have hOy:=(by exact hOy.q hx3 (by intro x hx;simp at hx;left;omega));have hO:=(by exact hO.q hx3 (by intro x hx;simp at hx;left;omega));have hT:=hT.q hx3 ‹_›;have hN:=hN.q hx3 ‹_›
   replace hM:=hM3
   refine Qc (Qd (Z 3 J (Fa Ac6 J (Lb o84 J ‹_› (by rfl) ?_))));refine Z 1 J (B5 J (B7 sl84 Tryz.underlying84 zr92 J J J (by rfl)) ?_);intro b4 w4 hb4 hs4 hx4 hB4;have hC:=hC.step (hx3.j hx4) (by simp<;>omega);have hB0:=hB0.u hx4;have hA:=hA.u hx4;have hI:=hI.u hx4;have hOy:=hOy.u hx4;have hO:=hO.u hx4;have hM:=hM.u hx4;have hT:=hT.u hx4;have hN:=hN.u hx4;refine G1 J el84 J J hO (Blk.rd (F:=fun _=>True) ‹_› J trivial) (by rfl) (by omega) (by omega) ?_;intro A' c' w5 hO5 hx5 hA';have hC:=hC.step hx5 ‹_›;have hB0:=hB0.q hx5 (by intro h;have:=hOb _ h;omega);have hA:=hA.q hx5 (by intro x hx hf;have:=hOb x hx;have:=hF x hf;omega);have hI:=hI.q hx5 (by intro x hx hf;have:=hOb x hx;have:=hF x hf;omega);have hOy:=(by exact hOy.keep hx5 ‹_›);have hM:=hM.q hx5 (by intro h;have:=hOb _ h;omega);have hT:=hT.q hx5 ‹_›;have hN:=hN.q hx5 ‹_›
   replace hO:=hO5
   refine Z 1 J (Fa Ac6 J (Pe sz84 J ‹_› J J ?_));intro w6 hs6 hx6 hB0;have hC:=hC.step hx6 (by simp;done);have hA:=hA.q hx6 (by intro b hb hFb;have:=hF _ hFb;simp at hb;omega);have hI:=hI.q hx6 (by intro b hb hFb;have:=hF _ hFb;simp at hb;omega);have hOy:=(by exact hOy.q hx6 (by intro x hx;simp at hx;left;omega));have hO:=(by exact hO.q hx6 (by intro x hx;simp at hx;left;omega));have hM:=hM.q hx6 (by simp;omega);have hT:=hT.q hx6 ‹_›;have hN:=hN.q hx6 ‹_›;refine Qc (Qd (Zc 2 J (A6 (B4 J J ?_))));rw [hE]
   have hins:∀ x,inSts (ms++[m]) x→inSts ms x∨x∈m.fp:=fun x hx=>by
    obtain ⟨i,hi,hx⟩:=hx;simp at hi;rw [Z5 _ _ _ _ (by omega)] at hx
    by_cases h:i=ms.length
    ·rw [Ek1 h] at hx;exact .inr hx
    ·rw [Ek0 h] at hx;exact .inl ⟨i,by omega,hx⟩
   refine ⟨hC,A',c',ms++[m],⟨?_,hA,hI,hF,hOy,?_,hM,hbp,hT.snoc hN.one (fun x hx=>(hm x hx).2),fun x hx=>(hins x hx).elim (hslo x) (fun h=>(hm x h).1),?_,?_⟩,rfl,.inr J,hN.one⟩
   ·unfold dC;simp only [Ek5,Ep0];exact hB0
   ·simp only [Ek5,Ep0];unfold Cj4;rw [Eo8];exact hO
   ·intro x hx;simp only [Ek5,Ep0]
    rcases Ax8 hx with rfl|hx
    ·simp only;omega
    ·have:=hmv x hx;omega
   ·simp only [Ek5,Ep0];omega
section
section
variable {P:Program} {n:Nat} {ops:Array Oper} {S:World→Prop} {N:Env→World→Prop} {B:Nat→Env→World→Prop} {R:Env→World→Prop} {e:Env} {w:World}
variable {rest:List (Nat × Oper)} {d:Nat} {op:Op} {t:TypeId} {p:String} {af:Array Edge} {v:Value}
theorem Cq8 (hd:Nat.blt d n=true) (hy:Does P n e ⟨some d,op,t,p,af,none⟩ (fun w'=>w'=w) v) (hS:S w) (h:EP P n ops S N B R rest ((d,v)::e) w):EP P n ops S N B R ((1,⟨some d,op,t,p,af,none⟩)::rest) e w:=
 EP.x1 (w':=w) hd (fun a ha=>hy a w ha J) hS h
end
section
variable {n:Nat} {e:Env} {w:World} {dst:Option Tmp} {t:TypeId} {p:String} {af:Array Edge} {g:Option (Nat × Bool)}
theorem Ej8 {φ:World→Prop} {τ τ' el:TypeId} {x y:Operand} {A:Option Addr} {m c:Nat} (hu:P.underlying τ=some (.slice el)) (hx:ev e x=some (.slice A m c)) (hy:ev e y=some (.slice none 0 0)):Does P n e ⟨dst,.binOp .eql τ x y τ',t,p,af,g⟩ φ (.bool A.isNone):=
 N4 hx hy J fun w _=>by
  have h:∀ d:Nat,(Op.equalIn (d+1) τ (.slice A m c) (.slice none 0 0)).run P w= .ok A.isNone w:=fun d=>by cases A<;>simp [Op.equalIn,run_underlying hu]
  simp only [binOp];simp [Op.equal,Op.maxDepth,h 9999]
theorem Ab8 {x:Operand} {A:Option Addr} {m c:Nat} {l:List Nat} {F:Nat→Prop} (hx:ev e x=some (.slice A m c)) (hm:m=l.length) (hl:∀ b∈l,b<256) (hr:Rd F w 1 A m (bys l)):
  Does P n e ⟨dst,.convert 44 9 x,t,p,af,g⟩ (fun w'=>w'=w) (Ch3 l):=fun a w' ha hw=>by
 subst hw hm;have hlen:(l.map UInt8.ofNat).length=l.length:=by simp
 have key:(convert 44 9 (.slice A l.length c)).run P w'= .ok (Ch3 l) w':=by
  cases A with
  |none=>
   have hl0:l=[]:=by
    rcases Nat.eq_zero_or_pos l.length with h|h
    ·exact Eq6 h
    ·obtain ⟨_,_,h2,_⟩:=hr.at_ h;cases h2
   subst hl0;rw [run_convert_bytes_string w' 44 9 5 none _ c Tryz.underlying44 Tryz.underlying5 Tryz.underlying9]
   rfl
  |some ad=>
   have:=run_convert_bytes_back (P:=P) w' 44 9 5 ad c (l.map UInt8.ofNat) Tryz.underlying44 Tryz.underlying5 Tryz.underlying9 (fun j hj=>by
    rw [hlen] at hj;obtain ⟨gb,off,h2,_,_,hc⟩:=hr.at_ (by omega);injection h2 with h2
    subst h2;rw [add0];have hb:=hl l[j] (List.getElem_mem hj);refine hc j _ ?_;rw [Au9 l j hj,Ek2,Ek4 hj];simp
    omega)
   rw [hlen] at this;exact this
 simp [execOp,ha.ev hx,key]
end
end
theorem behind_c (F:Nat→Prop) (p pa pb:Nat) (E:DE) (D:DS) (Ab:Option Addr) (cb:Nat) (Al:Option Addr) (cl bm:Nat) (ms:List StM) (n b:Nat) (w:World) (hq:E.q.S.length≤1000000) (hn:n<D.l.length) (hnl:D.l.length≤1000000) (hb:b<256)
  (hD:DOk F w p pa pb E D Ab cb Al cl bm ms) (hv:∀ x∈(D.l.getD n default).l,x<E.q.S.length) (hl:(D.l.getD n default).l.length≤1000000):
  Calls P 78 #[.pointer (some ⟨p,0,none⟩),.int .i64 (n:Nat),.int .u8 (b:Nat)] w (Ret fun u w'=>Chg [] w w'∧∃ A' c',u= .slice A' (I1 E D.l n b).length c'∧Own w' w.heap.size 3 1 A' (I1 E D.l n b).length c' (P3 (I1 E D.l n b))):=by
 have hC:=A8 [] w;obtain ⟨hB0,hA,hI,hF,hOy,hO,hM,hbp,hT,hslo,hmv,hlb⟩:=hD;have hbl:=hB0.lt
 refine D4 Tryz.func78 J J (Qd (Zc 1 J (Qa (Qd (Zc 2 J (A4 J (fun h1=>?_) (fun h1=>?_)))))))
 ·try simp at h1
  have hE:I1 E D.l n b=W9 E.k E.q b:=by unfold I1;rw [Ek1 (by omega)]
  rw [hE];refine Qa (C8 (S:=[]) 7 [(0,0),(0,1),(0,2),(0,3),(0,4),(1,5),(1,6),(2,7),(2,8)] mo (by kernel_rfl) ?_);intro w1 hx1 hh1;have hB0:=hB0.u hx1;have hCS1:=A8 ([]) w1;refine Z 2 J (Fa Dg0 J (D6 J (B3 o22 J ‹_› (by simp;done) (by rfl)) ?_));refine Z 1 J (E2 J (B7 Al4 Tryz.underlying44 zr5 J J J (by rfl)) ?_);intro b2 w2 hb2 hs2 hx2 hB2;have hA:=hA.u (hx1.s0 hx2);have hCS1:=hCS1.s0 hx2;refine ⟨hCS1,?_⟩;refine Cq8 J (Ab8 (l:=[b]) (F:=fun _=>True) J J (by intro x hx;simp at hx;omega) (Blk.rd ‹_› J trivial)) ‹_› ?_;refine Ca fb105 J (alive_c F pa E.k E.q _ b _ (Ag0 [b] (by intro x hx;simp at hx;omega)) hb hq hA (fun x h=>by have:=hF x h;omega)) ?_;rintro v9 w3 ⟨hx3,A',c',rfl,hO2⟩;have hC:=hC.s0 ((hx1.s0 hx2).s0 hx3);exact Zc 1 J (A6 (B4 J J ⟨hC,A',c',rfl,hO2.lower (by omega)⟩))
 ·try simp at h1
  have hE:I1 E D.l n b=Ar7 E.q (D.l.getD n default).l b:=by unfold I1;rw [Ek0 (by omega)]
  rw [hE];have hml:=hT.len;have hAl:∃ g off,Al=some ⟨g,off,none⟩:=by obtain ⟨g,off,h,_⟩:=(hO.rd (F:=fun _=>True) (fun _ _ _=>trivial)).at_ (by omega);exact ⟨g,off,h⟩
  obtain ⟨g,off,rfl⟩:=hAl;have hrl:=hO.rd (F:=fun _=>True) (fun _ _ _=>trivial);have hcell:=(hrl.one (W2 ms n (by omega))).2;have hk:=hT.ok n hn;have hBn:=hk.blk;refine A7 (Qa (C8 (S:=[]) 15 [(0,0),(0,1),(0,2),(0,3),(0,4),(0,5),(0,6),(0,7),(0,8),(0,9),(0,10),(0,11),(0,12),(0,13),(0,14),(2,15),(2,16)] mo (by kernel_rfl) ?_));intro w4 hx4 hh4;have hz4:=hx4.size;have hC:=hC.s0 hx4;have hB0:=hB0.u hx4;have hA:=hA.u hx4;have hBn:=hBn.u hx4;refine Z 2 J (Fa Dg0 J (D6 J (B3 o22 J ‹_› (by simp;done) (by rfl)) ?_));refine Z 2 J (Fa Ac6 J (D6 J (B3 o84 J ‹_› (by simp;done) (by rfl)) ?_));refine Z 1 J (D6 J (B0 sl84 J J (by omega) (by omega)) (D6 J (E0 o92 J (show World.cell? _ _=_ from (Chg.cell ‹_› (by simp) hcell)) (by simp<;>omega)) ?_));refine Z 1 J (Fa fl91_0 J (D6 J (B3 o24 J ‹_› (by simp;done) (by rfl)) ?_));refine Z 1 J (Ca fb106 J (next_c F (fun x=>x<w.heap.size) pa E.k E.q (D.l.getD n default).l b _ _ _ hb hq hl hv hA (fun x h=>by have:=hF x h;omega) (hk.rl.rd (fun x _ h=>h) |>.u ‹_›) (fun x h=>by omega)) ?_);rintro v9 w5 ⟨hx5,A',c',rfl,hO2⟩;have hC:=hC.s0 hx5;exact Zc 1 J (A6 (B4 J J ⟨hC,A',c',rfl,hO2.lower (by omega)⟩))
structure DInv (E:DE) (D:DS) (n j:Nat):Prop where
 nx:∀ i,i<D.l.length→(D.l.getD i default).next.length=if i<n then E.bytes.length else if i=n then j else 0
 nv:∀ i,i<D.l.length→∀ v∈(D.l.getD i default).next,v<D.l.length
 pv:∀ i,i<D.l.length→∀ x∈(D.l.getD i default).l,x<E.q.S.length
 pl:∀ i,i<D.l.length→(D.l.getD i default).l.length≤E.q.S.length
 wl:∀ i,i<D.l.length→(D.l.getD i default).word.length≤i
 wb:∀ i,i<D.l.length→∀ b∈(D.l.getD i default).word,b<256
 mv:∀ x∈D.met,0≤x.2∧x.2<(D.l.length:Nat)
theorem Eh5 (k:Kn) (q:Wst) (b:Nat):(∀ x∈W9 k q b,x<q.S.length)∧(W9 k q b).length≤q.S.length:=by
 have hl:(Ay5 q.S (Z2 k.first q.S.length) b).length=q.S.length:=by rw [Bl6,O3]
 unfold W9 Bf5;rw [hl];refine ⟨fun x hx=>Em9.1 (Er4.1 hx).1,?_⟩;have:=Es9 (fun i=>decide (0<(Ay5 q.S (Z2 k.first q.S.length) b).getD i 0)) (List.range q.S.length)
 simpa using this
theorem nextL_lt (q:Wst) (l:List Nat) (b:Nat):(∀ x∈Ar7 q l b,x<q.S.length)∧(Ar7 q l b).length≤q.S.length:=by
 unfold Ar7;refine ⟨fun x hx=>Em9.1 (Er4.1 hx).1,?_⟩;have:=Es9 (fun i=>l.any fun p=>goF q p b i) (List.range q.S.length)
 simpa using this
theorem Ah2 (E:DE) (l:List St) (n b:Nat):(∀ x∈I1 E l n b,x<E.q.S.length)∧(I1 E l n b).length≤E.q.S.length:=by
 unfold I1
 split
 ·exact Eh5 _ _ _
 ·exact nextL_lt _ _ _
theorem Cv2 (E:DE) (D:DS) (name:List UInt8) (s:St) (hm:∀ x∈D.met,0≤x.2∧x.2<(D.l.length:Nat)):
  ((R4 E D name s).2.l=D.l∧(R4 E D name s).2.met=D.met∧((R4 E D name s).1<D.l.length∨(R4 E D name s).1=0))∨
  ((R4 E D name s).2.l=D.l++[s]∧(R4 E D name s).2.met=Ba4 D.met name (D.l.length:Nat)∧(R4 E D name s).1=D.l.length):=by
 unfold R4
 cases h:S9 D.met name with
 |some v=>
  left
  have:=hm _ (P4 h);simp only at this ⊢;exact ⟨trivial,trivial,.inl (by omega)⟩
 |none=>
  simp only
  split
  ·exact .inl ⟨rfl,rfl,.inr J⟩
  ·exact .inr ⟨rfl,rfl,rfl⟩
theorem Aq6 {l:List St} {s:St} {i:Nat} (hi:i<l.length):(l++[s]).getD i default=l.getD i default:=by
 rw [Z5 _ _ _ _ (by omega),Ek0 (by omega)]
theorem De7 {E:DE} {D:DS} {n j:Nat} (h:DInv E D n j) (name:List UInt8) (s:St) (hs:s.next=[]) (hp:∀ x∈s.l,x<E.q.S.length) (hpl:s.l.length≤E.q.S.length) (hw:s.word.length≤D.l.length) (hwb:∀ b∈s.word,b<256) (hn:n<D.l.length):
  DInv E (R4 E D name s).2 n j∧(R4 E D name s).1<(R4 E D name s).2.l.length∧D.l.length≤(R4 E D name s).2.l.length∧∀ i,i<D.l.length→(R4 E D name s).2.l.getD i default=D.l.getD i default:=by
 rcases Cv2 E D name s h.mv with ⟨h1,h2,h3⟩|⟨h1,h2,h3⟩
 ·rw [h1];refine ⟨⟨by rw [h1];exact h.nx,by rw [h1];exact h.nv,by rw [h1];exact h.pv,by rw [h1];exact h.pl,by rw [h1];exact h.wl,by rw [h1];exact h.wb,by rw [h1,h2];exact h.mv⟩,by omega,El1 _,fun i hi=>rfl⟩
 ·rw [h1,h3];have hl:(D.l++[s]).length=D.l.length+1:=by simp
  have hlast:(D.l++[s]).getD D.l.length default=s:=by rw [Z5 _ _ _ _ (El1 _),Ek1 J]
  have old:∀ {Q:Nat→St→Prop},(∀ i,i<D.l.length→Q i (D.l.getD i default))→Q D.l.length s→∀ i,i<(D.l++[s]).length→Q i ((D.l++[s]).getD i default):=fun {Q} h1 h2 i hi=>by
   by_cases h:i<D.l.length
   ·rw [Aq6 h];exact h1 i h
   ·have:i=D.l.length:=by omega
    subst this;rw [hlast];exact h2
  refine ⟨⟨?_,?_,?_,?_,?_,?_,?_⟩,by omega,by omega,fun i hi=>Aq6 hi⟩
  ·rw [h1];exact old (Q:=fun i t=>t.next.length=if i<n then E.bytes.length else if i=n then j else 0) h.nx (by rw [Ek0 (by omega),Ek0 (by omega),hs];rfl)
  ·rw [h1];exact old (Q:=fun i t=>∀ v∈t.next,v<(D.l++[s]).length) (fun i hi v hv=>by have:=h.nv i hi v hv;omega) (by rw [hs];simp)
  ·rw [h1];exact old (Q:=fun i t=>∀ x∈t.l,x<E.q.S.length) h.pv hp
  ·rw [h1];exact old (Q:=fun i t=>t.l.length≤E.q.S.length) h.pl hpl
  ·rw [h1];exact old (Q:=fun i t=>t.word.length≤i) h.wl hw
  ·rw [h1];exact old (Q:=fun i t=>∀ b∈t.word,b<256) h.wb hwb
  ·rw [h1,h2];intro x hx
   rcases Ax8 hx with rfl|hx
   ·simp only;omega
   ·have:=h.mv x hx;omega
theorem Bp0 {E:DE} {D:DS} {n j v:Nat} (h:DInv E D n j) (hn:n<D.l.length) (hv:v<D.l.length):DInv E (N5 D n v) n (j+1):=by
 have hl:(N5 D n v).l.length=D.l.length:=by simp [N5]
 have hg:∀ i,(N5 D n v).l.getD i default=if i=n then { D.l.getD n default with next:=(D.l.getD n default).next++[v] } else D.l.getD i default:=fun i=>by
  unfold N5;exact Ai9 _ _ _ _ _ hn
 refine ⟨fun i hi=>?_,fun i hi=>?_,fun i hi=>?_,fun i hi=>?_,fun i hi=>?_,fun i hi=>?_,?_⟩
 ·rw [hl] at hi;rw [hg];have:=h.nx i hi
  by_cases hin:i=n
  ·subst hin;rw [Ek1 J,Ek0 (by omega),Ek1 J];rw [Ek0 (by omega),Ek1 J] at this;rw [Ek5,this];rfl
  ·rw [Ek0 hin,this]
   by_cases h1:i<n
   ·rw [Ek1 h1,Ek1 h1]
   ·rw [Ek0 h1,Ek0 h1,Ek0 hin,Ek0 hin]
 ·rw [hl] at hi ⊢;rw [hg]
  by_cases hin:i=n
  ·subst hin;rw [Ek1 J];intro x hx
   rcases En7.1 hx with hx|hx
   ·exact h.nv i hi x hx
   ·simp at hx;omega
  ·rw [Ek0 hin];exact h.nv i hi
 ·rw [hl] at hi;rw [hg]
  by_cases hin:i=n
  ·subst hin;rw [Ek1 J];exact h.pv i hi
  ·rw [Ek0 hin];exact h.pv i hi
 ·rw [hl] at hi;rw [hg]
  by_cases hin:i=n
  ·subst hin;rw [Ek1 J];exact h.pl i hi
  ·rw [Ek0 hin];exact h.pl i hi
 ·rw [hl] at hi;rw [hg]
  by_cases hin:i=n
  ·subst hin;rw [Ek1 J];exact h.wl i hi
  ·rw [Ek0 hin];exact h.wl i hi
 ·rw [hl] at hi;rw [hg]
  by_cases hin:i=n
  ·subst hin;rw [Ek1 J];exact h.wb i hi
  ·rw [Ek0 hin];exact h.wb i hi
 ·rw [hl];exact h.mv
theorem Aq2 (E:DE) (l:List St) (n b:Nat):(Ab0 E l n b).word=(l.getD n default).word++[b]:=rfl
theorem Co1 {E:DE} {D:DS} {n j b:Nat} (h:DInv E D n j) (hn:n<D.l.length) (hb:b<256):DInv E (L0 E n D b) n (j+1)∧D.l.length≤(L0 E n D b).l.length:=by
 have hw:=h.wl n hn
 have hm:=De7 h (P1 (I1 E D.l n b)) (Ab0 E D.l n b) J (Ah2 E D.l n b).1 (Ah2 E D.l n b).2 (by rw [Aq2,Ek5,Ep0];omega) (by
  rw [Aq2];intro x hx
  rcases En7.1 hx with hx|hx
  ·exact h.wb n hn x hx
  ·simp at hx;omega) hn
 unfold L0;refine ⟨Bp0 hm.1 (by omega) hm.2.1,?_⟩;simp only [N5,Et8];exact hm.2.2.1
theorem DInv.go {E:DE} {D:DS} {n:Nat} (h:DInv E D n E.bytes.length):DInv E D (n+1) 0:=by
 refine ⟨fun i hi=>?_,h.nv,h.pv,h.pl,h.wl,h.wb,h.mv⟩;rw [h.nx i hi]
 by_cases h1:i<n
 ·rw [Ek1 h1,Ek1 (by omega)]
 ·rw [Ek0 h1]
  by_cases h2:i=n
  ·rw [Ek1 h2,Ek1 (by omega)]
  ·rw [Ek0 h2,Ek0 (by omega)];split<;>rfl
def st0 (E:DE):St:=⟨[],[],[],decide (0<E.k.void),false⟩
def D0 (E:DE):DS:=(R4 E ⟨[],[],false⟩ Cn5 (st0 E)).2
theorem Au7 (E:DE):O5 E=U8 E (E.budget+1) 0 (D0 E):=rfl
theorem D0_inv (E:DE):DInv E (D0 E) 0 0:=by
 unfold D0 R4;simp only [Ai6]
 split
 ·exact ⟨by simp,by simp,by simp,by simp,by simp,by simp,by simp⟩
 ·simp only [Ek8,Eu6]
  have key:∀ {Q:Nat→St→Prop},Q 0 (st0 E)→∀ i,i<[st0 E].length→Q i ([st0 E].getD i default):=fun {Q} h i hi=>by
   simp at hi;subst hi;exact h
  refine ⟨key (Q:=fun i t=>t.next.length=if i<0 then E.bytes.length else if i=0 then 0 else 0) (by simp [st0]),key (Q:=fun i t=>∀ v∈t.next,v<[st0 E].length) (by simp [st0]),key (Q:=fun i t=>∀ x∈t.l,x<E.q.S.length) (by simp [st0]),key (Q:=fun i t=>t.l.length≤E.q.S.length) (by simp [st0]),key (Q:=fun i t=>t.word.length≤i) (by simp [st0]),key (Q:=fun i t=>∀ b∈t.word,b<256) (by simp [st0]),fun x hx=>?_⟩;simp [Ba4] at hx;subst hx;simp
theorem DOk.u {F:Nat→Prop} {w w':World} {p pa pb:Nat} {E:DE} {D:DS} {Ab:Option Addr} {cb:Nat} {Al:Option Addr} {cl bm:Nat} {ms:List StM} (h:DOk F w p pa pb E D Ab cb Al cl bm ms) (k:Chg [] w w'):DOk F w' p pa pb E D Ab cb Al cl bm ms:=
 ⟨h.blk.u k,h.aut.u k,h.bl.u k,h.hF,h.ob.u k,h.ol.u k,h.mp.u k,h.bp,h.sts.u k,h.slo,h.mv,h.lb⟩
theorem Dw6 (ms:List StM) (n:Nat) (m:StM) (hm:m.p=(ms.getD n default).p):Cj4 (ms.set n m)=Cj4 ms:=by
 apply Em4;intro i;simp only [Cj4,El8,En1]
 by_cases h:n=i
 ·subst h;rw [Ek1 J]
  by_cases hl:n<ms.length
  ·rw [Ek1 hl,Ek4 hl];rw [Ek2,Ek4 hl] at hm;simp only [En4,hm];rfl
  ·rw [Ek0 hl,El5 (by omega)]
 ·rw [Ek0 h]
theorem Au3 {α β:Type} (f:β→α→β) (b:β) (l:List α) (d:α) (k:Nat) (h:k<l.length):(l.take (k+1)).foldl f b=f ((l.take k).foldl f b) (l.getD k d):=by
 rw [Eq2 h,En9];simp [Ek2,Ek4 h]
theorem StOk.u {w w':World} {s:St} {m:StM} (h:StOk w s m) (k:Chg [] w w'):StOk w' s m:=h.q k (by simp)
theorem Ee1 (F:Nat→Prop) (p pa pb:Nat) (E:DE) (Ab:Option Addr) (cb bm:Nat) (w0 w:World) (hL0:Laid w0) (hq:E.q.S.length≤600) (hbud:E.budget≤1000000) (hby:∀ b∈E.bytes,b<256) (hbl:E.bytes.length≤256)
  (hC:Chg [] w0 w) (hlo:w0.heap.size≤bm) (hD:DOk F w p pa pb E ⟨[],[],false⟩ Ab cb none 0 bm []):
  Calls P 43 #[.pointer (some ⟨p,0,none⟩)] w (Ret fun u w'=>Chg [] w0 w'∧∃ Al cl ms n,DOk F w' p pa pb E (O5 E) Ab cb Al cl bm ms∧DInv E (O5 E) n 0∧((O5 E).full=false→(O5 E).l.length≤n)):=by
 have hbp:=hD.bp;have hF:=hD.hF;have hB0:=hD.blk;have hA:=hD.aut;obtain ⟨pw,As,cs,bf,bl,Aw,cw,gs,hAm⟩:=hA;have hBa:=hAm.blk;have hWei:=hAm.wei;have hDl:=hD.blk.lt
 try have hlB0:=hB0.lt
 try have hlBa:=hBa.lt
 refine D4 Tryz.func43 J J (Qd (Z 3 J (Fa Dg0 J (Lb o22 J ‹_› (by rfl) ?_))));refine Z 1 J (Fa Bm5 J (Lb o115 J ‹_› (by rfl) ?_));refine Ca fb77 J (void_c F pw E.k E.q _ hWei) ?_;rintro _ w1 ⟨rfl,hx1⟩;have hz1:=hx1.size;have hC:=hC.s0 hx1;have hD:=hD.u hx1;have hB0:=hB0.u hx1;have hBa:=hBa.u hx1;have hWei:=hWei.u hx1;refine Z 1 J (C9 J (B1 zr91 pl91 J (by rfl)) ?_);refine B5 J (E1 J J) ?_;intro b2 w2 hb2 hs2 hx2 hB2;have hz2:=hx2.size;have hC:=hC.s0 hx2;have hD:=hD.u hx2;have hB0:=hB0.u hx2;have hBa:=hBa.u hx2;have hWei:=hWei.u hx2;have hs0:StOk w2 (st0 E) ⟨b2,none,0,none,0⟩:=⟨by assumption,Own.nil _ _ _ _,Own.nil _ _ _ _,by simp [F7]⟩;refine Ca fb76 J (meet_c F p pa pb E _ Ab cb none 0 bm [] Cn5 (st0 E) ⟨b2,none,0,none,0⟩ _ hbud hD hs0 (fun x hx=>by rcases P9.1 hx with h|h|h;exact ⟨by show p<x;have:x=b2:=h;omega,fun ⟨i,hi,_⟩=>by simp at hi⟩;simp [F7] at h;simp [F7] at h)) ?_;rintro v9 w3 ⟨hxm,Al,cl,ms,hD',rfl,hms,_⟩;have hzm:=hxm.size;have hC:=hC.step hxm (fun x hx=>.inr (by simp [F7] at hx;omega));have hI0:=D0_inv E;have hE0:=Au7 E;change DOk F _ p pa pb E (D0 E) Ab cb Al cl bm ms at hD';generalize O5 E=R at*
 refine Qc (Qd (Zc 1 J (B2 (D8 (σ:=Nat × Nat × DS × Option Addr × Nat × List StM) (fun (g,n,D,Al,cl,ms)=>[(0,.pointer (some ⟨p,0,none⟩)),(2,.int .i64 n)]) (fun (g,n,D,Al,cl,ms) wr=>Chg [] w0 wr∧DOk F wr p pa pb E D Ab cb Al cl bm ms∧DInv E D n 0∧R=U8 E g n D∧n≤D.l.length∧E.budget<n+g) (fun (g,n,D,Al,cl,ms) wr=>g) (E.budget+1,0,D0 E,Al,cl,ms) ⟨rfl,rfl,trivial⟩ ?_ ?_))))
 ·exact ⟨hC,hD',hI0,hE0,El0 _,by show _<0+_;omega⟩
 rintro ⟨g,n,D,Al,cl,ms⟩ w9 ⟨hC,hD,hI,hR,hnl,hg⟩;have hB0:=hD.blk;have hlb:=hD.lb;have hpw9:=hB0.lt
 try have hzw:=hC.size
 try have hlB0:=hB0.lt
 refine Qa (Qd (Z 3 J (Fa Ac6 J (Lb o84 J ‹_› (by rfl) ?_))))
 refine Ln Tryz.underlying84 J (Z 2 J (C0 (d:=29) J (fun h1=>?_) (fun h1=>?_)))
 ·try simp at h1
  refine Qu J (Z 1 J (Qu J (Z 1 J (Qu J (Fa Ec8 J (Qu J (Lb o4 J ‹_› (by rfl) ?_)))))))
  refine Qu J (Zc 2 J (A4 J (fun h2=>?_) (fun h2=>?_)))
  ·try simp at h2
   obtain ⟨g,rfl⟩:∃ g',g=g'+1:=⟨g - 1,by omega⟩;have hn:n<D.l.length:=by omega
   have hRs:R=U8 E g (n+1) (Cn9 E n D):=by rw [hR];show (if n<D.l.length∧D.full=false then _ else _)=_;rw [Ek1 ⟨hn,by simpa using h2⟩]
   refine A7 (Qa (B2 (Qd (Z 2 J (Fa Df9 J (Lb o44 J ‹_› (by rfl) ?_))))))
   refine Ln Tryz.underlying44 J (Zc 1 J (B2 (D8 (σ:=Nat × DS × Option Addr × Nat × List StM) (fun (j,D1,Al,cl,ms)=>[(0,.pointer (some ⟨p,0,none⟩)),(2,.int .i64 n),(41,.slice Ab E.bytes.length cb),(42,.int .i64 (E.bytes.length:Nat)),(43,.int .i64 j)]) (fun (j,D1,Al,cl,ms) wr=>Chg [] w0 wr∧DOk F wr p pa pb E D1 Ab cb Al cl bm ms∧DInv E D1 n j∧D1=(E.bytes.take j).foldl (L0 E n) D∧n<D1.l.length∧j≤E.bytes.length) (fun (j,D1,Al,cl,ms) wr=>E.bytes.length - j) (0,D,Al,cl,ms) ⟨rfl,rfl,rfl,rfl,rfl,trivial⟩ ?_ ?_)))
   ·exact ⟨hC,hD,hI,rfl,hn,El0 _⟩
   rintro ⟨j,D1,Al,cl,ms⟩ w8 ⟨hC,hD,hI,hD1,hn1,hj⟩
   try have hzw:=hC.size
   refine Qd (Zc 1 J (Qa (A4 J (fun h3=>?_) (fun h3=>?_))))
   ·try simp at h3
    have hjn:j<E.bytes.length:=by omega
    have hb:=hby _ (G9 E.bytes 0 j hjn);have hOy:=hD.ob;have hAy:∃ g off,Ab=some ⟨g,off,none⟩:=by obtain ⟨g,off,h,_⟩:=(hOy.rd (F:=fun _=>True) (fun _ _ _=>trivial)).at_ (by omega);exact ⟨g,off,h⟩
    obtain ⟨gy,oy,rfl⟩:=hAy;refine A7 (Qa (B2 (Qd (C9 J (B0 Al4 J J (by omega) (by omega)) (Lc o5 J ((hOy.rd (F:=fun _=>True) (fun _ _ _=>trivial)).one (Au9 E.bytes j hjn)).2 ?_)))));generalize hbb:E.bytes.getD j 0=b at*;have hlb1:=hD.lb;have hws:=hI.wl n hn1;have hpl:=hI.pl n hn1;have hfresh:∀ x,inSts ms x→x<w8.heap.size:=fun x hx=>hD.sts.lt hx
    have hpw8:=hD.blk.lt;refine Zc 1 J (Qd (Z 3 J (Ca fb78 J (behind_c F p pa pb E D1 _ cb Al cl bm ms n b _ (by omega) hn1 (by omega) hb hD (hI.pv n hn1) (by omega)) ?_)));rintro v9 w4 ⟨hx4,A1,c1,rfl,hO1⟩;have hz4:=hx4.size;have hC:=hC.s0 hx4;have hD:=hD.u hx4;have hbh:=Ah2 E D1.l n b;have hA1:∀ x∈F7 A1,w8.heap.size≤x:=fun x hx=>(hO1.blk x hx).1
    have hB0:=hD.blk;have hk:=hD.sts.ok n hn1;have hBn:=hk.blk;have hml:=hD.sts.len;have hrl:=hD.ol.rd (F:=fun _=>True) (fun _ _ _=>trivial);have hAl:∃ g off,Al=some ⟨g,off,none⟩:=by obtain ⟨g,off,h,_⟩:=hrl.at_ (by omega);exact ⟨g,off,h⟩
    obtain ⟨gl,ol,rfl⟩:=hAl;have hcell:=(hrl.one (W2 ms n (by omega))).2;have haut:=hD.aut;have hws1:=Af6 (D1.l.getD n default).word;have hws2:(As7 [b]).size=1:=Af6 [b]
    try have hlB0:=hB0.lt
    try have hlBn:=hBn.lt
    refine Zc 1 J (I3 (fun e9 wr=>∃ bn,Sub [(0,.pointer (some ⟨p,0,none⟩)),(2,.int .i64 n),(41,.slice (some ⟨gy,oy,none⟩) E.bytes.length cb),(42,.int .i64 (E.bytes.length:Nat)),(43,.int .i64 j),(5,.slice A1 (I1 E D1.l n b).length c1),(6,.pointer (some ⟨bn,0,none⟩))] e9∧Chg [] w0 wr∧DOk F wr p pa pb E D1 (some ⟨gy,oy,none⟩) cb (some ⟨gl,ol,none⟩) cl bm ms∧Own wr w8.heap.size 3 1 A1 (I1 E D1.l n b).length c1 (P3 (I1 E D1.l n b))∧Blk wr bn (stC (Ab0 E D1.l n b) ⟨bn,A1,c1,none,0⟩) 91∧w8.heap.size≤bn) ?_ ?_)
    ·refine Bp5 (S:=[]) 23 (.two [(0,0),(0,1),(0,2),(0,3),(0,4),(0,5),(0,6),(0,7),(0,8),(0,9),(0,10),(0,11),(0,15),(0,16),(0,17),(0,18),(0,19)] 12 (.two [] 13 (.seg [(0,14),(1,20),(0,21),(1,22),(2,23)]) 20 (.seg [(1,13),(0,14),(0,21),(1,22),(2,23)])) 20 (.seg [(1,12),(1,13),(0,14),(0,21),(1,22),(2,23)])) mo (by kernel_rfl) ?_;simp only [ET];intro w5 hx5 hh5;have hz5:=hx5.size;have hC:=hC.s0 hx5;have hD:=hD.u hx5;have hO1:=hO1.u hx5;have hB0:=hB0.u hx5;have hBn:=hBn.u hx5;have haut:=haut.u hx5;have hCS5:=A8 ([]) w5;refine Z 3 J (Fa Ac6 J (D6 J (B3 o84 J ‹_› (by simp;done) (by rfl)) ?_));refine Z 1 J (D6 J (B0 sl84 J J (by omega) (by omega)) (D6 J (E0 o92 J (show World.cell? _ _=_ from (Chg.cell ‹_› (by simp) hcell)) (by simp;done)) ?_));refine Z 1 J (Fa fl91_1 J (D6 J (B3 o9 J ‹_› (by simp;done) (by rfl)) ?_));refine Z 3 J (Fa Dg0 J (D6 J (B3 o22 J ‹_› (by simp;done) (by rfl)) ?_))
     refine Zc 1 J ⟨?_,?_⟩
     ·refine E2 J (B7 Al4 Tryz.underlying44 zr5 J J J (by rfl)) ?_;intro b6 w6 hb6 hs6 hx6 hB6;have hz6:=hx6.size;have hC:=hC.s0 hx6;have hD:=hD.u hx6;have hO1:=hO1.u hx6;have hB0:=hB0.u hx6;have hBn:=hBn.u hx6;have haut:=haut.u hx6;have hCS5:=hCS5.s0 hx6;refine ⟨hCS5,?_⟩
      refine Qc (Qc ⟨?_,?_⟩)
      ·refine Cq8 J (Ab8 (l:=[b]) (F:=fun _=>True) J J (by intro x hx;simp at hx;omega) (Blk.rd ‹_› J trivial)) ‹_› ?_;refine Qc (D6 J ((Ba2 J J (by omega)).to (congrArg Value.string (Ad6 (D1.l.getD n default).word [b]))) (C5 J (C3 fb79 J) (Ee6 F (fun x=>x<w8.heap.size∨w8.heap.size≤x∧x<(World.heap _).size) pa E.k E.q (I1 E D1.l n b) A1 c1 _ (by omega) (by omega) haut (fun x h=>by have:=hF x h;omega) (hO1.rd (fun x h1 h2=>Or.inr ⟨h1,h2⟩)) (fun x h=>by omega)) ?_));rintro _ w7 ⟨rfl,hx7⟩;have hz7:=hx7.size;have hC:=hC.s0 hx7;have hD:=hD.u hx7;have hO1:=hO1.u hx7;have hB0:=hB0.u hx7;have hBn:=hBn.u hx7;have haut:=haut.u hx7;have hCS5:=hCS5.s0 hx7;have hB6:=hB6.u hx7;refine ⟨hCS5,?_⟩;refine D6 J (B1 zr91 pl91 J (by rfl)) ?_;refine E2 J (E1 J J) ?_;intro b8 w8 hb8 hs8 hx8 hB8;have hz8:=hx8.size;have hC:=hC.s0 hx8;have hD:=hD.u hx8;have hO1:=hO1.u hx8;have hB0:=hB0.u hx8;have hBn:=hBn.u hx8;have haut:=haut.u hx8;have hCS5:=hCS5.s0 hx8;have hB6:=hB6.u hx8;refine ⟨hCS5,?_⟩;exact Zc 1 J ⟨b8,⟨rfl,rfl,rfl,rfl,rfl,rfl,rfl,trivial⟩,hC,hD,hO1,hB8,by omega⟩
      ·refine C5 J (C3 fb79 J) (Ee6 F (fun x=>x<w8.heap.size∨w8.heap.size≤x∧x<(World.heap _).size) pa E.k E.q (I1 E D1.l n b) A1 c1 _ (by omega) (by omega) haut (fun x h=>by have:=hF x h;omega) (hO1.rd (fun x h1 h2=>Or.inr ⟨h1,h2⟩)) (fun x h=>by omega)) ?_;rintro _ w9 ⟨rfl,hx9⟩;have hz9:=hx9.size;have hC:=hC.s0 hx9;have hD:=hD.u hx9;have hO1:=hO1.u hx9;have hB0:=hB0.u hx9;have hBn:=hBn.u hx9;have haut:=haut.u hx9;have hCS5:=hCS5.s0 hx9;have hB6:=hB6.u hx9;refine ⟨hCS5,?_⟩;refine Qc (Cq8 J (Ab8 (l:=[b]) (F:=fun _=>True) J J (by intro x hx;simp at hx;omega) (Blk.rd ‹_› J trivial)) ‹_› ?_);refine D6 J ((Ba2 J J (by omega)).to (congrArg Value.string (Ad6 (D1.l.getD n default).word [b]))) (D6 J (B1 zr91 pl91 J (by rfl)) ?_);refine E2 J (E1 J J) ?_;intro b10 w10 hb10 hs10 hx10 hB10;have hz10:=hx10.size;have hC:=hC.s0 hx10;have hD:=hD.u hx10;have hO1:=hO1.u hx10;have hB0:=hB0.u hx10;have hBn:=hBn.u hx10;have haut:=haut.u hx10;have hCS5:=hCS5.s0 hx10;have hB6:=hB6.u hx10;refine ⟨hCS5,?_⟩;exact Zc 1 J ⟨b10,⟨rfl,rfl,rfl,rfl,rfl,rfl,rfl,trivial⟩,hC,hD,hO1,hB10,by omega⟩
     ·refine C5 J (C3 fb79 J) (Ee6 F (fun x=>x<w8.heap.size∨w8.heap.size≤x∧x<(World.heap _).size) pa E.k E.q (I1 E D1.l n b) A1 c1 _ (by omega) (by omega) haut (fun x h=>by have:=hF x h;omega) (hO1.rd (fun x h1 h2=>Or.inr ⟨h1,h2⟩)) (fun x h=>by omega)) ?_;rintro _ w11 ⟨rfl,hx11⟩;have hz11:=hx11.size;have hC:=hC.s0 hx11;have hD:=hD.u hx11;have hO1:=hO1.u hx11;have hB0:=hB0.u hx11;have hBn:=hBn.u hx11;have haut:=haut.u hx11;have hCS5:=hCS5.s0 hx11;refine ⟨hCS5,?_⟩;refine Qc (E2 J (B7 Al4 Tryz.underlying44 zr5 J J J (by rfl)) ?_);intro b12 w12 hb12 hs12 hx12 hB12;have hz12:=hx12.size;have hC:=hC.s0 hx12;have hD:=hD.u hx12;have hO1:=hO1.u hx12;have hB0:=hB0.u hx12;have hBn:=hBn.u hx12;have haut:=haut.u hx12;have hCS5:=hCS5.s0 hx12;refine ⟨hCS5,?_⟩;refine Cq8 J (Ab8 (l:=[b]) (F:=fun _=>True) J J (by intro x hx;simp at hx;omega) (Blk.rd ‹_› J trivial)) ‹_› ?_;refine D6 J ((Ba2 J J (by omega)).to (congrArg Value.string (Ad6 (D1.l.getD n default).word [b]))) (D6 J (B1 zr91 pl91 J (by rfl)) ?_);refine E2 J (E1 J J) ?_;intro b13 w13 hb13 hs13 hx13 hB13;have hz13:=hx13.size;have hC:=hC.s0 hx13;have hD:=hD.u hx13;have hO1:=hO1.u hx13;have hB0:=hB0.u hx13;have hBn:=hBn.u hx13;have haut:=haut.u hx13;have hCS5:=hCS5.s0 hx13;have hB12:=hB12.u hx13;refine ⟨hCS5,?_⟩;exact Zc 1 J ⟨b13,⟨rfl,rfl,rfl,rfl,rfl,rfl,rfl,trivial⟩,hC,hD,hO1,hB13,by omega⟩
    rintro e9 w7 ⟨bn,hs9,hC,hD,hO1,hBs,hbns⟩;refine I2 _ hs9 ?_;clear hs9 e9
    try have hzw:=hC.size
    have hbnl:=hBs.lt;have hA1b:=hO1.blk;have hS:StOk w7 (Ab0 E D1.l n b) ⟨bn,A1,c1,none,0⟩:=⟨hBs,hO1.lower (El0 _),Own.nil _ _ _ _,by simp [F7]⟩;refine Qd (Z 1 J (Ca fb80 J (text_c (I1 E D1.l n b) (fun x hx=>by have:=hbh.1 x hx;omega) (by omega) (fun x=>w8.heap.size≤x∧x<w7.heap.size) A1 c1 _ (hL0.u hC) (fun x h=>h.2) (hO1.rd (fun x h1 h2=>⟨h1,h2⟩))) ?_));rintro _ w14 ⟨rfl,hx14⟩;have hz14:=hx14.size;have hC:=hC.s0 hx14;have hD:=hD.u hx14;have hO1:=hO1.u hx14;have hS:=hS.u hx14
    have hfp:∀ x∈(StM.mk bn A1 c1 none 0).fp,p<x∧¬ inSts ms x:=fun x hx=>by
     have hx8:w8.heap.size≤x:=by
      rcases P9.1 hx with h|h|h
      ·have:x=bn:=h;omega
      ·exact hA1 x h
      ·simp [F7] at h
     exact ⟨by omega,fun hin=>by have:=hfresh x hin;omega⟩
    refine Zc 1 J (Qd (Z 3 J (Ca fb76 J (meet_c F p pa pb E D1 _ cb _ cl bm ms (P1 (I1 E D1.l n b)) (Ab0 E D1.l n b) ⟨bn,A1,c1,none,0⟩ _ hbud hD hS hfp) ?_)));rintro v9 w15 ⟨hxm,Al2,cl2,ms2,hD2,rfl,hms2,hS2⟩;have hzm:=hxm.size;have hOlb:=hD.ol.blk
    have hC:=hC.step hxm (fun x hx=>.inr (by
     rcases Eo4.1 hx with rfl|hx
     ·omega
     ·rcases Eo4.1 hx with rfl|hx
      ·omega
      ·have:=hOlb x hx;omega))
    have hmi:=De7 hI (P1 (I1 E D1.l n b)) (Ab0 E D1.l n b) J hbh.1 hbh.2 (by rw [Aq2,Ek5,Ep0];omega) (by
     rw [Aq2];intro x hx
     rcases En7.1 hx with hx|hx
     ·exact hI.wb n hn1 x hx
     ·simp at hx;omega) hn1
    have hD1':D1=(E.bytes.take j).foldl (L0 E n) D:=hD1
    have hstep:(E.bytes.take (j+1)).foldl (L0 E n) D=N5 (R4 E D1 (P1 (I1 E D1.l n b)) (Ab0 E D1.l n b)).2 n (R4 E D1 (P1 (I1 E D1.l n b)) (Ab0 E D1.l n b)).1:=by
     rw [Au3 _ _ _ 0 _ hjn,← hD1',hbb];rfl
    generalize R4 E D1 (P1 (I1 E D1.l n b)) (Ab0 E D1.l n b)=mr at*;obtain ⟨v,D2⟩:=mr;simp only at hD2 hmi hstep;obtain ⟨hI2,hv2,hge2,hsame⟩:=hmi;have hn2:n<D2.l.length:=by omega
    obtain ⟨hB0,hA,hIb,hF2,hOy,hO,hM,hbp2,hT,hslo,hmv,hlb2⟩:=hD2;have hk:=hT.ok n hn2;have hml2:=hT.len;generalize hm2:ms2.getD n default=m2 at*;have hBn:=hk.blk;have hOn:=hk.on;have hnx:=hI2.nx n hn2;rw [Ek0 (by omega),Ek1 J] at hnx;have hfl:∀ x∈m2.fp,p<x:=fun x hx=>hslo x (Cb8 hT hn2 (by rw [hm2];exact hx))
    have hrl2:=hO.rd (F:=fun _=>True) (fun _ _ _=>trivial);have hAl2:∃ g off,Al2=some ⟨g,off,none⟩:=by obtain ⟨g,off,h,_⟩:=hrl2.at_ (by omega);exact ⟨g,off,h⟩
    obtain ⟨gl2,ol2,rfl⟩:=hAl2;have hcell2:=(hrl2.one (W2 ms2 n (by omega))).2;rw [hm2] at hcell2;have hOb:∀ x∈F7 m2.A2,p<x∧x<(World.heap w15).size:=fun x hx=>⟨hfl x (P9.2 (.inr (.inr hx))),hk.lt x (P9.2 (.inr (.inr hx)))⟩
    have hps:p<m2.p:=hfl _ (P9.2 (.inl J));have hOl:=hk.rl;have ho1:=hOy.apart hOn (by decide);have ho2:=hO.apart hOn (by decide);have ho3:=hOy.offBlk hBn (by decide);have ho4:=hO.offBlk hBn (by decide);have ho5:=hOl.offBlk hBn (by decide);have hs2:=hk.s2;have hon:=hOn.offBlk hBn (by decide);have hpn:m2.p∉F7 m2.A2:=fun h=>hon _ h (by simp)
    have hlw:=hk.lt;have hCn:=A8 m2.fp w15;have hcn1:∀ x∈F7 m2.A2,x∈m2.fp∨(World.heap w15).size≤x:=fun x hx=>.inl (P9.2 (.inr (.inr hx)))
    have hcn2:∀ x∈[m2.p],x∈m2.fp∨(World.heap w15).size≤x:=fun x hx=>.inl (P9.2 (.inl (Ek3.1 hx)))
    try have hlB0:=hB0.lt
    try have hlBn:=hBn.lt
    have hgl2:gl2∉F7 m2.A2:=ho2 gl2 (by simp [F7]);refine Zc 1 J (C8 (S:=F7 m2.A2) 20 [(0,0),(0,1),(0,2),(0,3),(0,4),(0,5),(0,6),(0,7),(0,8),(0,9),(0,10),(0,11),(0,12),(0,13),(0,14),(0,15),(0,16),(0,17),(1,18),(1,19),(2,20),(2,21),(2,22)] mo (by kernel_rfl) ?_);intro w16 hx16 hh16;have hz16:=hx16.size;have hC:=hC.s0 hx16;have hB0:=hB0.u hx16;have hA:=hA.u hx16;have hIb:=hIb.u hx16;have hOy:=hOy.u hx16;have hO:=hO.u hx16;have hM:=hM.u hx16;have hBn:=hBn.u hx16;have hOn:=hOn.u hx16;have hOl:=hOl.u hx16;have hCn:=hCn.s0 hx16;have hCS16:=A8 (F7 m2.A2) w16;have hcell3:=((hO.rd (F:=fun _=>True) (fun _ _ _=>trivial)).one (W2 ms2 n (by omega))).2;rw [hm2] at hcell3;refine Z 2 J (Fa Ac6 J (D6 J (B3 o84 J ‹_› (by intro h;have:=hOb _ h;omega) (by rfl)) ?_));refine Z 1 J (D6 J (B0 sl84 J J (by omega) (by omega)) (D6 J (E0 o92 J hcell3 ‹_›) ?_));refine Z 2 J (Fa Ac6 J (D6 J (B3 o84 J ‹_› (by intro h;have:=hOb _ h;omega) (by rfl)) ?_));refine Z 1 J (D6 J (B0 sl84 J J (by omega) (by omega)) (D6 J (E0 o92 J hcell3 ‹_›) ?_));refine Z 1 J (Fa Df8 J (D6 J (B3 o24 J ‹_› ‹_› (by rfl)) ?_));refine Z 1 J (E2 J (B7 T8 Tryz.underlying24 zr3 J J J (by rfl)) ?_);intro b17 w17 hb17 hs17 hx17 hB17;have hz17:=hx17.size;have hC:=hC.s0 hx17;have hB0:=hB0.u hx17;have hA:=hA.u hx17;have hIb:=hIb.u hx17;have hOy:=hOy.u hx17;have hO:=hO.u hx17;have hM:=hM.u hx17;have hBn:=hBn.u hx17;have hOn:=hOn.u hx17;have hOl:=hOl.u hx17;have hCn:=hCn.s0 hx17;have hCS16:=hCS16.s0 hx17;refine ⟨hCS16,?_⟩;refine Ab7 J Dg6 J J hOn (Blk.rd (F:=fun _=>True) ‹_› J trivial) (by rfl) (by omega) (by omega) ?_;intro A' c' w18 hO18 hx18 hA';have hz18:=hx18.size;have hC:=hC.step hx18 (by intro x h;have:=hOb x h;exact .inr (by omega));have hB0:=hB0.q hx18 (by intro h;have:=hOb _ h;omega);have hA:=hA.q hx18 (by intro x hx hf;have:=hOb x hx;have:=hF x hf;omega);have hIb:=hIb.q hx18 (by intro x hx hf;have:=hOb x hx;have:=hF x hf;omega);have hOy:=(by exact hOy.keep hx18 ‹_›);have hO:=(by exact hO.keep hx18 ‹_›);have hM:=hM.q hx18 (by intro h;have:=hOb _ h;omega);have hBn:=hBn.q hx18 ‹_›;have hOl:=(by exact hOl.keep hx18 ‹_›);have hCn:=hCn.step hx18 ‹_›;have hCS16:=hCS16.step hx18 (by exact fun x h=>.inl h);have hB17:=hB17.q hx18 (by intro h;have:=hOb _ h;omega)
    replace hOn:=hO18
    refine ⟨hCS16,?_⟩;have hon2:=hOn.offBlk hBn (by decide);refine Z 1 J (Fa Df8 J (Pb sz24 J J ‹_› J J J J (by rfl) ?_));intro w19 hs19 hx19 hBn;have hz19:=hx19.size;have hC:=hC.step hx19 (by simp;omega);have hB0:=hB0.q hx19 (by simp;omega);have hA:=hA.q hx19 (by intro b hb hFb;have:=hF _ hFb;simp at hb;omega);have hIb:=hIb.q hx19 (by intro b hb hFb;have:=hF _ hFb;simp at hb;omega);have hOy:=(by exact hOy.keep hx19 ‹_›);have hO:=(by exact hO.keep hx19 ‹_›);have hM:=hM.q hx19 (by simp;omega);have hOn:=(by exact hOn.keep hx19 ‹_›);have hOl:=(by exact hOl.keep hx19 ‹_›);have hCn:=hCn.step hx19 ‹_›;have hB17:=hB17.q hx19 (by simp;omega);refine Qc (Qb (Ad J J (by omega) (Zc 1 J ⟨(j+1,N5 D2 n v,some ⟨gl2,ol2,none⟩,cl2,ms2.set n ⟨m2.p,m2.A,m2.c,A',c'⟩),⟨rfl,rfl,rfl,rfl,rfl,trivial⟩,?_,?_⟩)));have hal:(N5 D2 n v).l.length=D2.l.length:=by simp [N5]
    have hmn:ms2.getD n default=m2:=hm2
    have hfpn:∀ x∈(StM.mk m2.p m2.A m2.c A' c').fp,x∈(ms2.getD n default).fp∨p<x∧(∀ y,inSts ms2 y→y<x):=fun x hx=>by
     rw [hmn]
     rcases P9.1 hx with h|h|h
     ·exact .inl (P9.2 (.inl h))
     ·exact .inl (P9.2 (.inr (.inl h)))
     ·rcases hA' with h2|⟨b',h2,h3⟩
      ·left;simp only [h2] at h;exact P9.2 (.inr (.inr h))
      ·right
       simp only [h2,F7,Ek3] at h;subst h;exact ⟨by omega,fun y hy=>by have:=hT.lt hy;omega⟩
    have hsts:=hT.upd (s':={ D2.l.getD n default with next:=(D2.l.getD n default).next++[v] }) (m':=⟨m2.p,m2.A,m2.c,A',c'⟩) hn2 hCn (fun x h=>by rw [hmn];exact h) ⟨by
      simp only [stC,Ek5,Ep0];exact hBn,hOl,by
      simp only [Ek5,Ep0];rw [Cl1];exact hOn,fun x hx hx2=>by
      simp only at hx2
      rcases hA' with h2|⟨b',h2,h3⟩
      ·rw [h2] at hx2;exact hs2 x hx hx2
      ·rw [h2] at hx2;simp [F7] at hx2;have:=hk.lt x (P9.2 (.inr (.inl hx)))
       omega⟩ (fun x hx=>by
      rcases P9.1 hx with h|h|h
      ·rw [hmn];exact .inl (P9.2 (.inl h))
      ·rw [hmn];exact .inl (P9.2 (.inr (.inl h)))
      ·rcases hA' with h2|⟨b',h2,h3⟩
       ·rw [hmn];left;simp only [h2] at h;exact P9.2 (.inr (.inr h))
       ·right
        simp only [h2,F7,Ek3] at h
        omega)
    refine ⟨hC,⟨?_,hA,hIb,hF2,hOy,?_,hM,hbp2,hsts,?_,by rw [hal];exact hmv,by rw [hal];exact hlb2⟩,Bp0 hI2 hn2 hv2,hstep.symm,by rw [hal];exact hn2,hjn⟩
    ·unfold dC;rw [hal];exact hB0
    ·rw [Dw6 _ _ _ (by rw [hmn]),hal];exact hO
    ·rintro x ⟨i,hi,hx⟩;rw [Et8] at hi;rw [Ai9 _ _ _ _ _ (by omega)] at hx
     by_cases hin:i=n
     ·rw [Ek1 hin] at hx
      rcases hfpn x hx with h|h
      ·exact hslo x ⟨n,by omega,h⟩
      ·exact h.1
     ·rw [Ek0 hin] at hx;exact hslo x ⟨i,hi,hx⟩
    show E.bytes.length - (j+1)<E.bytes.length - j;omega
   ·try simp at h3
    have hjj:j=E.bytes.length:=by omega
    subst hjj;rw [En0 (El1 _)] at hD1;refine Xb (Qb (Z 1 J (Ad J J (by omega) (Zc 1 J ⟨(g,n+1,D1,Al,cl,ms),⟨rfl,rfl,trivial⟩,?_,?_⟩))));exact ⟨hC,hD,hI.go,by rw [hRs,hD1];rfl,hn1,by omega⟩;exact Er6 g
  ·try simp at h2
   have hRD:R=D:=by
    rw [hR]
    cases g with
    |zero=>rfl
    |succ g=>show (if n<D.l.length∧D.full=false then _ else _)=_;rw [Ek0 (by rintro ⟨_,h⟩;rw [h] at h2;simp at h2)]
   refine Xb (T5 J ?_);rw [hRD];exact ⟨hC,Al,cl,ms,n,hD,hI,fun h=>by rw [h] at h2;simp at h2⟩
 ·try simp at h1
  have hRD:R=D:=by
   rw [hR]
   cases g with
   |zero=>rfl
   |succ g=>show (if n<D.l.length∧D.full=false then _ else _)=_;rw [Ek0 (by rintro ⟨h,_⟩;omega)]
  refine Qk J (Qk J (Qk J (Qk J (Qk J (Zc 1 J (E4 J (Xb (T5 J ?_))))))));rw [hRD];exact ⟨hC,Al,cl,ms,n,hD,hI,fun h=>by omega⟩
theorem DOk.setSt {F:Nat→Prop} {w w':World} {p pa pb:Nat} {E:DE} {D:DS} {Ab:Option Addr} {cb:Nat} {Al:Option Addr} {cl bm:Nat} {ms:List StM} {n:Nat} {s':St} (h:DOk F w p pa pb E D Ab cb Al cl bm ms) (hn:n<D.l.length)
  (k:Chg [(ms.getD n default).p] w w') (hb:Blk w' (ms.getD n default).p (stC s' (ms.getD n default)) 91) (h1:s'.l=(D.l.getD n default).l) (h2:s'.next=(D.l.getD n default).next):
  DOk F w' p pa pb E { D with l:=D.l.set n s' } Ab cb Al cl bm ms:=by
 have hk:=h.sts.ok n hn;have hml:=h.sts.len;have hin:inSts ms (ms.getD n default).p:=Cb8 h.sts hn (P9.2 (.inl J));have hpp:=h.slo _ hin;have hbp:=h.bp
 have hset:ms.set n (ms.getD n default)=ms:=by
  apply Em4;intro i;rw [En1]
  by_cases hi:n=i
  ·subst hi;rw [Ek1 J,Ek1 (by omega),Ek2,Ek4 (by omega)];rfl
  ·rw [Ek0 hi]
 have hs:=h.sts.upd (s':=s') (m':=ms.getD n default) hn k (fun x hx=>by rw [Ek3.1 hx];exact P9.2 (.inl J))
  ⟨hb,by rw [h1];exact hk.rl.keep k (hk.rl.offBlk hk.blk (by decide)),by rw [h2];exact hk.on.keep k (hk.on.offBlk hk.blk (by decide)),hk.s2⟩ (fun x hx=>.inl hx)
 rw [hset] at hs
 refine ⟨?_,h.aut.q k (fun b hb hF=>by have:=h.hF b hF;rw [Ek3.1 hb] at this;omega),h.bl.q k (fun b hb hF=>by have:=h.hF b hF;rw [Ek3.1 hb] at this;omega),h.hF,h.ob.keep k (h.ob.offBlk hk.blk (by decide)),?_,h.mp.q k (by rw [Ek3];omega),h.bp,hs,h.slo,?_,?_⟩
 ·have:=h.blk.q k (by rw [Ek3];omega);unfold dC at this ⊢
  simpa using this
 ·have:=h.ol.keep k (h.ol.offBlk hk.blk (by decide))
  simpa using this
 ·simpa using h.mv
 ·simpa using h.lb
def Bf8 (l:List St) (i:Nat):List St:=l.mapIdx fun j s=>if j<i then { s with dead:= !s.meant } else s
theorem Ef5 (l:List St) (i:Nat):(Bf8 l i).length=l.length:=by simp [Bf8]
theorem Dp4 (l:List St):Bf8 l 0=l:=by apply Em4;intro j;simp [Bf8]
theorem Dp6 (l:List St):Bf8 l l.length=Bq9 l:=by
 apply Em4;intro j;simp only [Bf8,Bq9,Ep2,El8]
 cases h:l[j]? with
 |none=>rfl
 |some s=>
  have:=(Em5.1 h).1;simp [this]
theorem Bn1 (l:List St) (i:Nat) (h:i<l.length):(Bf8 l i).getD i default=l.getD i default:=by
 simp [Bf8,Ek2,h]
theorem Dp5 (l:List St) (i:Nat) (h:i<l.length):Bf8 l (i+1)=(Bf8 l i).set i { l.getD i default with dead:= !(l.getD i default).meant }:=by
 apply Em4;intro j;simp only [Bf8,Ep2,En1,List.length_mapIdx]
 by_cases hij:i=j
 ·subst hij;rw [Ek1 J,Ek1 h,Ek4 h];simp [Ek2,h]
 ·rw [Ek0 hij]
  cases hl:l[j]? with
  |none=>rfl
  |some s=>
   simp only [En4]
   by_cases h1:j<i
   ·rw [Ek1 (by omega),Ek1 h1]
   ·rw [Ek0 (by omega),Ek0 h1]
theorem Aq3 (l:List St) (k:Nat):Ao1 l (k+1)=T3 (Ao1 l k) k:=by
 unfold Ao1;rw [Ep7,En9];rfl
theorem Cl7 (x:List St × Bool) (i:Nat):(T3 x i).1.length=x.1.length:=by unfold T3;split<;>simp
theorem Ao0 (l:List St):∀ k,(Ao1 l k).1.length=l.length
 |0=>rfl
 |k+1=>by rw [Aq3,Cl7,Ao0 l k]
def sameSt (a b:St):Prop:=a.l=b.l∧a.word=b.word∧a.next=b.next∧a.meant=b.meant
theorem Cb0 (x:List St × Bool) (i:Nat) (j:Nat):sameSt ((T3 x i).1.getD j default) (x.1.getD j default):=by
 unfold T3
 split
 ·by_cases hi:i<x.1.length
  ·rw [Ai9 _ _ _ _ _ hi]
   by_cases h:j=i
   ·subst h;rw [Ek1 J];exact ⟨rfl,rfl,rfl,rfl⟩
   ·rw [Ek0 h];exact ⟨rfl,rfl,rfl,rfl⟩
  ·rw [List.set_eq_of_length_le (by omega)];exact ⟨rfl,rfl,rfl,rfl⟩
 ·exact ⟨rfl,rfl,rfl,rfl⟩
theorem sameSt.trans {a b c:St} (h:sameSt a b) (k:sameSt b c):sameSt a c:=⟨h.1.trans k.1,h.2.1.trans k.2.1,h.2.2.1.trans k.2.2.1,h.2.2.2.trans k.2.2.2⟩
theorem Aq4 (l:List St) (j:Nat):∀ k,sameSt ((Ao1 l k).1.getD j default) (l.getD j default)
 |0=>⟨rfl,rfl,rfl,rfl⟩
 |k+1=>by rw [Aq3];exact (Cb0 _ _ _).trans (Aq4 l j k)
def Ce9 (l:List St):Nat:=(l.filter fun s=>s.dead).length
theorem Ef6 (l:List St) (i:Nat) (h:i<l.length) (hd:(l.getD i default).dead=true):Ce9 (l.set i { l.getD i default with dead:=false })+1=Ce9 l:=by
 unfold Ce9
 have hl:l=l.take i++l.getD i default::l.drop (i+1):=by
  rw [Ek2,Ek4 h];simp
 have hs:l.set i { l.getD i default with dead:=false }=l.take i++{ l.getD i default with dead:=false }::l.drop (i+1):=by
  rw [Eq0,Ek1 h]
 rw [hs]
 conv=>rhs;rw [hl]
 simp only [Eq5,Et4,hd,if_true,Er7,if_false,Ek5,En2];omega
theorem Bu3 (l:List St):∀ k,k≤l.length→Ce9 (Ao1 l k).1≤Ce9 l∧((Ao1 l k).2=true→Ce9 (Ao1 l k).1<Ce9 l)
 |0,_=>⟨El1 _,fun h=>by cases h⟩
 |k+1,hk=>by
  obtain ⟨h1,h2⟩:=Bu3 l k (by omega);have hlen:=Ao0 l k;rw [Aq3];unfold T3
  split
  ·rename_i hc
   simp only [Ek6] at hc;have:=Ef6 (Ao1 l k).1 k (by omega) hc.1;refine ⟨?_,fun _=>?_⟩<;>(dsimp only at this ⊢;omega)
  ·exact ⟨h1,h2⟩
theorem deadC_le (l:List St):Ce9 l≤l.length:=Es9 _ _
theorem Cl9:∀ (f:Nat) (l:List St),(Cb2 f l).length=l.length
 |0,l=>rfl
 |f+1,l=>by
  unfold Cb2
  split
  ·rw [Cl9 f,Ao0]
  ·rw [Ao0]
theorem Bu4:∀ (f:Nat) (l:List St) (j:Nat),sameSt ((Cb2 f l).getD j default) (l.getD j default)
 |0,l,j=>⟨rfl,rfl,rfl,rfl⟩
 |f+1,l,j=>by
  unfold Cb2
  split
  ·exact (Bu4 f _ j).trans (Aq4 l j _)
  ·exact Aq4 l j _
theorem Bn2 (l:List St):(Bq9 l).length=l.length:=by simp [Bq9]
theorem Cl8 (l:List St):(Cb1 l).length=l.length:=by unfold Cb1;rw [Cl9,Bn2]
theorem Bw1 (l:List St) (j:Nat) (h:j<l.length):sameSt ((Bq9 l).getD j default) (l.getD j default):=by
 simp [Bq9,Ek2,h,sameSt]
theorem Bb5 (l:List St) (j:Nat) (h:j<l.length):sameSt ((Cb1 l).getD j default) (l.getD j default):=by
 unfold Cb1;exact (Bu4 _ _ _).trans (Bw1 l j h)
theorem mark1_c (F:Nat→Prop) (p pa pb:Nat) (E:DE) (D:DS) (Ab:Option Addr) (cb:Nat) (Al:Option Addr) (cl bm:Nat) (ms:List StM) (j b1:Nat) (w:World) (hD:DOk F w p pa pb E D Ab cb Al cl bm ms) (hB1:Blk w b1 [.pointer (some ⟨p,0,none⟩)] 31) (hj:j<D.l.length) (hb:E.budget≤1000000):
  Calls P 82 #[.int .i64 (j:Nat),.pointer (some ⟨b1,0,none⟩)] w (Ret fun u w'=>u= .bool (!(D.l.getD j default).dead)∧Chg [] w w'):=by
 have hC:=A8 [] w;obtain ⟨hB0,hA,hI,hF,hOy,hO,hM,hbp,hT,hslo,hmv,hlb⟩:=hD;have hml:=hT.len;have hrl:=hO.rd (F:=fun _=>True) (fun _ _ _=>trivial);have hAl:∃ g off,Al=some ⟨g,off,none⟩:=by obtain ⟨g,off,h,_⟩:=hrl.at_ (by omega);exact ⟨g,off,h⟩
 obtain ⟨g,off,rfl⟩:=hAl;have hcell:=(hrl.one (W2 ms j (by omega))).2;have hBn:=(hT.ok j hj).blk;refine D4 Tryz.func82 J J (Qd (Zc 1 J (Qd (Lb o31 J ‹_› (by rfl) ?_))));refine Z 1 J (Fa Ac6 J (Lb o84 J ‹_› (by rfl) ?_));refine Z 1 J (C9 J (B0 sl84 J J (by omega) (by omega)) (Lc o92 J hcell (Z 1 J (Fa Df7 J (Lb o4 J ‹_› (by rfl) ?_)))));exact Zc 2 J (A6 (B4 J J ⟨rfl,hC⟩))
theorem mark_c (F:Nat→Prop) (p pa pb:Nat) (E:DE) (D:DS) (Ab:Option Addr) (cb:Nat) (Al:Option Addr) (cl bm:Nat) (ms:List StM) (w0 w:World) (hC:Chg [] w0 w) (hlo:w0.heap.size≤bm) (hD:DOk F w p pa pb E D Ab cb Al cl bm ms) (hb:E.budget≤1000000)
  (hnv:∀ i,i<D.l.length→∀ v∈(D.l.getD i default).next,v<D.l.length) (hnl:∀ i,i<D.l.length→(D.l.getD i default).next.length≤256):
  Calls P 44 #[.pointer (some ⟨p,0,none⟩)] w (Ret fun u w'=>Chg [] w0 w'∧DOk F w' p pa pb E { D with l:=Cb1 D.l } Ab cb Al cl bm ms):=by
 have hbp:=hD.bp;have hlb:=hD.lb;have hml:=hD.sts.len;have hslo:=hD.slo;have hsin:∀ i,i<D.l.length→inSts ms (ms.getD i default).p:=fun i hi=>Cb8 hD.sts hi (P9.2 (.inl J))
 have hAl:0<D.l.length→∃ g off,Al=some ⟨g,off,none⟩:=fun h=>by
  obtain ⟨g,off,h,_⟩:=(hD.ol.rd (F:=fun _=>True) (fun _ _ _=>trivial)).at_ h;exact ⟨g,off,h⟩
 refine D4 Tryz.func44 J J (Qd (B5 J (E1 J J) ?_));intro b1 w1 hb1 hs1 hx1 hB1;have hC:=hC.s0 hx1;have hD:=hD.u hx1;refine Qc (Qa (Qd (Lb o31 J ‹_› (by rfl) ?_)));have hB0:=hD.blk;refine Z 1 J (Fa Ac6 J (Lb o84 J ‹_› (by rfl) ?_))
 refine Ln Tryz.underlying84 J (Zc 1 J (B2 (D8 (σ:=Nat) (fun i=>[(1,.pointer (some ⟨b1,0,none⟩)),(10,.slice Al D.l.length cl),(11,.int .i64 (D.l.length:Nat)),(12,.int .i64 i)]) (fun i wr=>Chg [] w0 wr∧DOk F wr p pa pb E { D with l:=Bf8 D.l i } Ab cb Al cl bm ms∧Blk wr b1 [.pointer (some ⟨p,0,none⟩)] 31∧i≤D.l.length) (fun i wr=>D.l.length - i) 0 (sb J) ?_ ?_)))
 ·exact ⟨hC,by rw [Dp4];exact hD,hB1,El0 _⟩
 rintro i w9 ⟨hC,hD,hB1,hi⟩;have hdl:=Ef5 D.l i
 refine Qd (Zc 1 J (Qa (A4 J (fun h1=>?_) (fun h1=>?_))))
 ·try simp at h1
  have hin:i<D.l.length:=by omega
  obtain ⟨g,off,rfl⟩:=hAl (by omega);have hcell:=((hD.ol.rd (F:=fun _=>True) (fun _ _ _=>trivial)).one (W2 ms i (by omega))).2;have hBn:=(hD.sts.ok i (by rw [hdl];exact hin)).blk;simp only at hBn;rw [Bn1 D.l i hin] at hBn;obtain ⟨pm,hpm⟩:∃ x,x=(ms.getD i default).p:=⟨_,rfl⟩;rw [← hpm] at hBn hcell;have hpn:=hslo _ (hsin i hin);rw [← hpm] at hpn;have hnb:=hB1.ne hBn (by decide);refine A7 (Qa (B2 (Qd (C9 J (B0 sl84 J J (by omega) (by omega)) (Lc o92 J hcell (Zc 1 J (Qb ?_)))))));have hdd:=Dp5 D.l i hin;refine Z 3 J (Fa fl91_3 J (Lb o4 J ‹_› (by rfl) ?_));refine Z 2 J (Fa Df7 J (Pe sz4 J ‹_› J J ?_));intro w2 hs2 hx2 hBn;have hC:=hC.step hx2 (by simp;omega);have hB1:=hB1.q hx2 (by simp;omega);refine Qc (Qb (Ad J J (by omega) (Zc 1 J ⟨i+1,sb J,?_,?_⟩)));have hD2:=hD.setSt (n:=i) (s':={ D.l.getD i default with dead:= !(D.l.getD i default).meant }) (by rw [hdl];exact hin) (by rw [← hpm];exact hx2) (by rw [← hpm];exact hBn) (by simp only;rw [Bn1 D.l i hin]) (by simp only;rw [Bn1 D.l i hin]);exact ⟨hC,by rw [hdd];exact hD2,hB1,hin⟩;omega
 ·try simp at h1
  have hii:i=D.l.length:=by omega
  subst hii;rw [Dp6] at hD;have hR:Cb1 D.l=Cb2 (D.l.length+1) (Bq9 D.l):=rfl;generalize Cb1 D.l=R at*
  refine Xb (Qd (Zc 1 J (B2 (D8 (σ:=Nat × List St × Bool) (fun (g,l,more)=>[(1,.pointer (some ⟨b1,0,none⟩)),(4,.bool more)]) (fun (g,l,more) wr=>Chg [] w0 wr∧DOk F wr p pa pb E { D with l:=l } Ab cb Al cl bm ms∧Blk wr b1 [.pointer (some ⟨p,0,none⟩)] 31∧l.length=D.l.length∧(∀ j,j<D.l.length→sameSt (l.getD j default) (D.l.getD j default))∧(more=true→Cb2 g l=R∧Ce9 l<g)∧(more=false→l=R)) (fun (g,l,more) wr=>(if more then g+1 else 0)) (D.l.length+1,Bq9 D.l,true) (sb J) ?_ ?_))))
  ·exact ⟨hC,hD,hB1,Bn2 _,fun j hj=>Bw1 _ j hj,fun _=>⟨hR.symm,by have:=deadC_le (Bq9 D.l);rw [Bn2] at this;omega⟩,fun h=>by cases h⟩
  rintro ⟨g,l,more⟩ w8 ⟨hC,hD,hB1,hll,hsm,hmt,hmf⟩;have hB0:=hD.blk
  refine Qa (Qd (Zc 1 J (A4 J (fun hmore=>?_) (fun hmore=>?_))))
  ·try simp at hmore
   obtain ⟨hmR,hdc⟩:=hmt hmore;obtain ⟨g,rfl⟩:∃ g',g=g'+1:=⟨g - 1,by omega⟩;refine A7 (B2 (Qd (Zc 1 J (Qd (Lb o31 J ‹_› (by rfl) ?_)))));refine Z 1 J (Fa Ac6 J (Lb o84 J ‹_› (by rfl) ?_))
   refine Ln Tryz.underlying84 J (Zc 1 J (B2 (D8 (σ:=Nat) (fun i=>[(1,.pointer (some ⟨b1,0,none⟩)),(4,.bool (Ao1 l i).2),(29,.slice Al D.l.length cl),(30,.int .i64 (D.l.length:Nat)),(31,.int .i64 i)]) (fun i wr=>Chg [] w0 wr∧DOk F wr p pa pb E { D with l:=(Ao1 l i).1 } Ab cb Al cl bm ms∧Blk wr b1 [.pointer (some ⟨p,0,none⟩)] 31∧i≤D.l.length) (fun i wr=>D.l.length - i) 0 ⟨rfl,rfl,(R0 J (by simp only [hll])),(G2 J (by simp only [hll])),rfl,trivial⟩ ?_ ?_)))
   ·exact ⟨hC,hD,hB1,El0 _⟩
   rintro i w7 ⟨hC,hD,hB1,hi⟩;have hul:=Ao0 l i;have hus:=Aq3 l i;have hsame:∀ j,j<D.l.length→sameSt ((Ao1 l i).1.getD j default) (D.l.getD j default):=fun j hj=>(Aq4 l j i).trans (hsm j hj)
   generalize hx:Ao1 l i=x at*;obtain ⟨y,mo⟩:=x;simp only at hD hul hsame
   refine Qd (Zc 1 J (Qa (A4 J (fun h3=>?_) (fun h3=>?_))))
   ·try simp at h3
    have hin:i<D.l.length:=by omega
    have hiy:i<y.length:=by omega
    obtain ⟨g0,off,rfl⟩:=hAl (by omega);have hcell:=((hD.ol.rd (F:=fun _=>True) (fun _ _ _=>trivial)).one (W2 ms i (by omega))).2;have hk:=hD.sts.ok i hiy;have hBn:=hk.blk;simp only at hBn;obtain ⟨pm,hpm⟩:∃ x,x=(ms.getD i default).p:=⟨_,rfl⟩;rw [← hpm] at hBn hcell;have hpn:=hslo _ (hsin i hin);rw [← hpm] at hpn;have hnb:=hB1.ne hBn (by decide);have hsi:=hsame i hin;have hnx:(y.getD i default).next=(D.l.getD i default).next:=hsi.2.2.1;have hnl':=hnl i hin
    have hnv2:∀ k,k<(y.getD i default).next.length→(y.getD i default).next.getD k 0<y.length:=by
     rw [hnx];intro k hk;have:=hnv i hin _ (G9 _ 0 k hk);omega
    refine A7 (Qa (B2 (Qd (C9 J (B0 sl84 J J (by omega) (by omega)) (Lc o92 J hcell (Zc 1 J (Qd (Z 2 J (Fa Df7 J (Lb o4 J ‹_› (by rfl) ?_))))))))))
    refine Z 1 J (C0 (d:=39) J (fun h4=>?_) (fun h4=>?_))
    ·try simp at h4
     have hrn:=hk.on.rd (F:=fun x=>x<w7.heap.size) (fun x _ h=>h);refine Qu J (Z 1 J (Qu J (Z 1 J (Qu J (Fa Df8 J (Qu J (Lb o24 J ‹_› (by rfl) ?_)))))));refine Qu J (C9 J (Ab4 (fun a ha=>U7 ha J) (fun a ha=>U7 ha J)) (Qu J (Ca fb81 J (anyI_c 82 #[] #[.pointer (some ⟨b1,0,none⟩)] fb82 (P3 (y.getD i default).next) (fun k=> !(y.getD ((y.getD i default).next.getD k 0) default).dead) (fun x=>x<w7.heap.size) _ _ _ _ (by rw [hnx];omega) (fun x h=>h) hrn (fun k v w' hk' hv' hw'=>by rw [Y6 _ k hk'] at hv';cases hv';exact mark1_c F p pa pb E { D with l:=y } Ab cb _ cl bm ms _ b1 w' (hD.u hw') (hB1.u hw') (hnv2 k hk') hb)) ?_)));rintro _ w3 ⟨rfl,hxc⟩;have hC:=hC.s0 hxc;have hB1:=hB1.u hxc;have hBn:=hBn.u hxc;have hD:=hD.u hxc
     have hun:(List.range (y.getD i default).next.length).any (fun k=> !(y.getD ((y.getD i default).next.getD k 0) default).dead)=Dt3 y (y.getD i default):=by
      unfold Dt3;rw [El4,Er1,Er1]
      constructor
      ·rintro ⟨k,hk1,hk2⟩;exact ⟨_,G9 _ 0 k (Em9.1 hk1),hk2⟩
      ·rintro ⟨v,hv1,hv2⟩;obtain ⟨k,hk1,rfl⟩:=Er2.1 hv1;have he:(y.getD i default).next.getD k 0=(y.getD i default).next[k]:=by rw [Ek2,Ek4 hk1];rfl
       exact ⟨k,Em9.2 hk1,by simp only [he];exact hv2⟩
     refine Zc 1 J (A4 J (fun h5=>?_) (fun h5=>?_))
     ·try simp at h5
      have hms:T3 (y,mo) i=(y.set i { y.getD i default with dead:=false },true):=by
       unfold T3;rw [Ek1 (by simp only;rw [← hun];rw [Ek6];exact ⟨by simpa using h4,by simpa using h5⟩)]
      refine Qb (Z 2 J (Fa Df7 J (Pe sz4 J ‹_› J J ?_)));intro w4 hs4 hx4 hBn;have hC:=hC.step hx4 (by simp;omega);have hB1:=hB1.q hx4 (by simp;omega);refine Zc 1 J (Qb (Ad J J (by omega) (Zc 1 J ⟨i+1,⟨rfl,(H3 J (by rw [hus,hms])),rfl,rfl,rfl,trivial⟩,?_,?_⟩)));have hD2:=hD.setSt (n:=i) (s':={ y.getD i default with dead:=false }) hiy (by rw [← hpm];exact (by assumption)) (by rw [← hpm];exact hBn) J J;exact ⟨hC,by rw [hus,hms];exact hD2,hB1,hin⟩;omega
     ·try simp at h5
      have hms:T3 (y,mo) i=(y,mo):=by
       unfold T3;rw [Ek0 (by simp only;rw [← hun];rw [Ek6];rintro ⟨_,h⟩;simp at h5 h;obtain ⟨k,hk1,hk2⟩:=h;have:=h5 k hk1;rw [this] at hk2;cases hk2)]
      refine A7 (Qb (Ad J J (by omega) (Zc 1 J ⟨i+1,⟨rfl,(H3 J (by rw [hus,hms])),rfl,rfl,rfl,trivial⟩,?_,?_⟩)));exact ⟨hC,by rw [hus,hms];exact hD,hB1,hin⟩;omega
    ·try simp at h4
     have hms:T3 (y,mo) i=(y,mo):=by
      unfold T3;rw [Ek0 (by simp only;rw [Ek6];rintro ⟨h,_⟩;simp at h4 h;rw [h4] at h;cases h)]
     refine Qk J (Qk J (Qk J (Qk J (Qk J (Qk J (Zc 1 J (E4 J (A7 (Qb (Ad J J (by omega) (Zc 1 J ⟨i+1,⟨rfl,(H3 J (by rw [hus,hms])),rfl,rfl,rfl,trivial⟩,?_,?_⟩)))))))))));exact ⟨hC,by rw [hus,hms];exact hD,hB1,hin⟩;omega
   ·try simp at h3
    have hii:i=l.length:=by omega
    subst hii;have hmd:=Bu3 l l.length (El1 _);rw [hx] at hmd;simp only at hmd
    have hRl:R=if mo then Cb2 g y else y:=by
     rw [← hmR];show (if (Ao1 l l.length).2 then _ else _)=_;rw [hx]
    refine Xb ⟨(g,y,mo),sb J,?_,?_⟩;refine ⟨hC,hD,hB1,by rw [hul,hll],hsame,fun h=>⟨by rw [hRl,Ek1 h],by have:=hmd.2 h;omega⟩,fun h=>by rw [hRl,Ek0 (by rw [h];simp)]⟩;show (if mo then g+1 else 0)<(if more then g+1+1 else 0);rw [Ek1 hmore]
    split<;>omega
  ·try simp at hmore
   have hlR:=hmf (by simpa using hmore);subst hlR;exact Xb (T5 J ⟨hC,hD⟩)
theorem Ei7 (F:Nat→Prop) (pa:Nat) (k:Kn) (q:Wst) (w:World) (hn:q.S.length≤1000000) (hW:IsAut F w pa k q) (hF:∀ x,F x→x<w.heap.size):
  Calls P 40 #[.pointer (some ⟨pa,0,none⟩)] w (Ret fun u w'=>Chg [] w w'∧∃ p,u= .pointer (some ⟨p,0,none⟩)∧IsBlk (FR w.heap.size w'.heap.size []) w' p (F6 q.S).1 (F6 q.S).2):=by
 have hC:=A8 [] w;obtain ⟨pw,As,cs,bf,bl,A2,c2,gs,h⟩:=hW;have hB0:=h.blk;have hR:=h.rs
 try have hlR:=hR.lt
 refine D4 Tryz.func40 J J (Qd (Zc 1 J (Qa (Qd (Z 1 J (C9 J (I0 Tryz.underlying22 J J) (Qc (A4 J (fun h0=>?_) (fun h0=>?_)))))))))
 ·try simp at h0
  all_goals cases h0
 ·try simp at h0
  refine A7 (Qd (Z 2 J (Fa Cd9 J (Lb o23 J ‹_› (by rfl) ?_))));refine Ca fb73 J (bnew_c q.S F As cs _ hn hF hR) ?_;rintro v9 w1 ⟨hx1,p,rfl,hI⟩;have hC:=hC.s0 hx1;exact Zc 1 J (A6 (B4 J J ⟨hC,p,rfl,hI⟩))
structure DGood (E:DE) (l:List St):Prop where
 pos:0<l.length
 nx:∀ i,i<l.length→(l.getD i default).next.length=E.nB
 nv:∀ i,i<l.length→∀ v∈(l.getD i default).next,v<l.length
 bl:E.bytes.length=E.nB
 nb:E.nB≤256
 fv:∀ b,b<256→E.f.getD b 0<E.nB
 le:l.length≤1000000
 by_:∀ b∈E.bytes,b<256
structure DfaM (F:Nat→Prop) (w:World) (p:Nat) (E:DE) (l:List St) (pa pb:Nat) (Ab:Option Addr) (cb:Nat) (Al:Option Addr) (cl bm:Nat) (ms:List StM):Prop where
 blk:Blk w p [.pointer (some ⟨pa,0,none⟩),.pointer (some ⟨pb,0,none⟩),.slice Ab E.bytes.length cb,.slice Al l.length cl,.map (some bm),.int .i64 E.budget,.bool false] 86
 fp:F p
 bl:IsBlk F w pb E.f E.nB
 rb:Rd F w 1 Ab E.bytes.length (bys E.bytes)
 rl:Rd F w 1 Al l.length (Cj4 ms)
 sts:StsOk w l ms
 fs:∀ x,inSts ms x→F x
 good:DGood E l
def IsDfa (F:Nat→Prop) (w:World) (p:Nat) (E:DE) (l:List St):Prop:=∃ pa pb Ab cb Al cl bm ms,DfaM F w p E l pa pb Ab cb Al cl bm ms
theorem IsDfa.q {F:Nat→Prop} {w w':World} {p:Nat} {E:DE} {l:List St} {S:List Nat} (h:IsDfa F w p E l) (c:Chg S w w') (hS:∀ b∈S,¬ F b):IsDfa F w' p E l:=by
 obtain ⟨pa,pb,Ab,cb,Al,cl,bm,ms,h⟩:=h;exact ⟨pa,pb,Ab,cb,Al,cl,bm,ms,h.blk.q c (fun hm=>hS _ hm h.fp),h.fp,h.bl.q c hS,h.rb.q c hS,h.rl.q c hS,h.sts.q c (fun x hx hin=>hS x hx (h.fs x hin)),h.fs,h.good⟩
theorem IsDfa.u {F:Nat→Prop} {w w':World} {p:Nat} {E:DE} {l:List St} (h:IsDfa F w p E l) (c:Chg [] w w'):IsDfa F w' p E l:=h.q c (by simp)
theorem IsDfa.mono {F F':Nat→Prop} {w:World} {p:Nat} {E:DE} {l:List St} (h:IsDfa F w p E l) (hF:∀ b,F b→b<w.heap.size→F' b):IsDfa F' w p E l:=by
 obtain ⟨pa,pb,Ab,cb,Al,cl,bm,ms,h⟩:=h;exact ⟨pa,pb,Ab,cb,Al,cl,bm,ms,h.blk,hF _ h.fp h.blk.lt,h.bl.mono hF,h.rb.mono hF,h.rl.mono hF,h.sts,fun x hx=>hF _ (h.fs x hx) (h.sts.lt hx),h.good⟩
theorem IsDfa.good {F:Nat→Prop} {w:World} {p:Nat} {E:DE} {l:List St} (h:IsDfa F w p E l):DGood E l:=by
 obtain ⟨pa,pb,Ab,cb,Al,cl,bm,ms,h⟩:=h;exact h.good
theorem Bu5 (f:List Nat) (n:Nat):(Ak1 f n).length=n:=by simp [Ak1]
theorem Eb0 (f:List Nat) (n:Nat):∀ b∈Ak1 f n,b<256:=by
 intro b hb;obtain ⟨i,_,rfl⟩:=Eo9.1 hb;exact Ap0 _
theorem Ap1 (E:DE):∀ (f n:Nat) (D:DS),(U8 E f n D).full=false→D.full=false
 |0,n,D,h=>h
 |f+1,n,D,h=>by
  unfold U8 at h
  split at h
  ·rename_i hc;exact hc.2
  ·exact h
theorem Cv7 (f:List Nat) (n i:Nat) (h:i<n):(Ak1 f n).take (i+1)=(Ak1 f n).take i++[L8 (K3 f 256 i)]:=by
 have hl:=Bu5 f n;rw [Ep9,Ek4 (by omega)];simp [Ak1]
theorem Dz8 (E:DE) (D:DS) (name:List UInt8) (s:St):D.l.length≤(R4 E D name s).2.l.length:=by
 unfold R4
 split
 ·exact El1 _
 ·split
  ·exact El1 _
  ·simp
theorem Co0 (E:DE) (n:Nat) (D:DS) (b:Nat):D.l.length≤(L0 E n D b).l.length:=by
 unfold L0;simp only [N5,Et8];exact Dz8 _ _ _ _
theorem Ce3 (E:DE) (n:Nat) (l:List Nat):∀ D:DS,D.l.length≤(l.foldl (L0 E n) D).l.length:=by
 induction l with
 |nil=>intro D;exact El1 _
 |cons b r ih=>intro D;exact En6 (Co0 E n D b) (ih _)
theorem Be7 (E:DE):∀ (f n:Nat) (D:DS),D.l.length≤(U8 E f n D).l.length
 |0,n,D=>El1 _
 |f+1,n,D=>by
  unfold U8
  split
  ·exact En6 (Ce3 E n E.bytes D) (Be7 E f (n+1) _)
  ·exact El1 _
theorem Cn8 (E:DE) (h:(O5 E).full=false):0<(O5 E).l.length:=by
 rw [Au7] at h ⊢;have h0:=Ap1 E _ _ _ h;have h1:=Be7 E (E.budget+1) 0 (D0 E)
 have h2:0<(D0 E).l.length:=by
  unfold D0 R4 at h0 ⊢;simp only [Ai6] at h0 ⊢
  split
  ·rename_i hb;rw [Ek1 hb] at h0;cases h0
  ·simp
 omega
theorem dnew_c (F:Nat→Prop) (pa:Nat) (k:Kn) (q:Wst) (budget:Nat) (w:World) (hW:IsAut F w pa k q) (hFw:∀ x,F x→x<w.heap.size) (hL:Laid w) (hq:q.S.length≤600) (hbud:budget≤1000000):
  Calls P 13 #[.pointer (some ⟨pa,0,none⟩),.int .i64 (budget:Nat)] w (Ret fun u w'=>Chg [] w w'∧(Dp2 k q budget=none→u= .tuple #[.pointer none,.int .i64 9])∧(∀ l,Dp2 k q budget=some l→∃ p,u= .tuple #[.pointer (some ⟨p,0,none⟩),.int .i64 0]∧IsDfa (fun x=>F x∨w.heap.size≤x) w' p (Bv9 k q budget) l)):=by
 have hC:=A8 [] w;have hL0:=hL;have hbok:=Bx3 q.S;have hLz:=hL.sz
 refine D4 Tryz.func13 J J (Qd (Zc 2 J (Qa (Qd (Z 1 J (C9 J (I0 Tryz.underlying22 J J) (Z 1 J (C0 (d:=12) J (fun h0=>?_) (fun h0=>?_)))))))))
 ·try simp at h0
  all_goals cases h0
 ·try simp at h0
  refine Qu J (Z 1 J (Qu J (Zc 2 J (A4 J (fun h1=>?_) (fun h1=>?_)))))
  ·try simp at h1
   all_goals omega
  ·try simp at h1
   refine A7 (Qd (Z 2 J (Ca fb40 J (Ei7 F pa k q _ (by omega) hW hFw) ?_)));rintro v9 w1 ⟨hx1,pb,rfl,hI'⟩;have hz1:=hx1.size;have hI:=hI';clear hI';refine Ae6 sk J ?_;intro b2 w2 hb2 hs2 hx2 hM2;refine Z 1 J (C9 J (B1 zr86 pl86 J (by rfl)) ?_);refine B5 J (E1 J J) ?_;intro b3 w3 hb3 hs3 hx3 hB3;have hI:=hI.u (hx2.s0 hx3);refine Zc 1 J (Qa (Qd (Z 2 J (Fa Ec9 J (Lb o81 J ‹_› (by rfl) ?_)))));refine Ca fb41 J (Di1 _ pb _ _ _ hI) ?_;rintro _ w4 ⟨rfl,hx4⟩;have hC:=hC.s0 (((hx1.s0 hx2).s0 hx3).s0 hx4);have hW:=hW.u (((hx1.s0 hx2).s0 hx3).s0 hx4);have hL:=hL.u (((hx1.s0 hx2).s0 hx3).s0 hx4);have hI:=hI.u hx4;have hM2:=hM2.u (hx3.s0 hx4);have hB3:=hB3.u hx4;have hE:(Bv9 k q budget).f=(F6 q.S).1∧(Bv9 k q budget).nB=(F6 q.S).2∧(Bv9 k q budget).bytes=Ak1 (F6 q.S).1 (F6 q.S).2∧(Bv9 k q budget).budget=budget∧(Bv9 k q budget).k=k∧(Bv9 k q budget).q=q:=⟨rfl,rfl,rfl,rfl,rfl,rfl⟩;have hP:Dp2 k q budget=if (O5 (Bv9 k q budget)).full then none else some (Cb1 (O5 (Bv9 k q budget)).l):=rfl
   have hll:=Bu5 (F6 q.S).1 (F6 q.S).2;have hlt:=Eb0 (F6 q.S).1 (F6 q.S).2;generalize Bv9 k q budget=E at*;generalize hf:(F6 q.S).1=f at*;generalize hnB:(F6 q.S).2=nB at*;rw [← hE.2.2.1] at hll hlt
   refine Zc 1 J (B2 (D8 (σ:=Nat × Option Addr × Nat) (fun (i,A,c)=>[(6,.pointer (some ⟨b3,0,none⟩)),(27,.int .i64 (nB:Nat)),(28,.int .i64 i)]) (fun (i,A,c) wr=>Chg [] w wr∧IsAut F wr pa k q∧Laid wr∧IsBlk (FR w.heap.size w1.heap.size []) wr pb f nB∧Mp sk wr b2 []∧Blk wr b3 [.pointer (some ⟨pa,0,none⟩),.pointer (some ⟨pb,0,none⟩),.slice A i c,.slice none 0 0,.map (some b2),.int .i64 budget,.bool false] 86∧Own wr (b3+1) 5 1 A i c (bys (E.bytes.take i))∧i≤nB) (fun (i,A,c) wr=>nB - i) (0,none,0) (sb J) ?_ ?_))
   ·exact ⟨hC,hW,hL,hI,hM2,hB3,Own.nil _ _ _ _,El0 _⟩
   rintro ⟨i,A,c⟩ w9 ⟨hC,hW,hL,hI,hM,hB3,hO,hi⟩;have hOb:=hO.blk
   try have hlB3:=hB3.lt
   refine Qd (Zc 1 J (Qa (A4 J (fun h2=>?_) (fun h2=>?_))))
   ·try simp at h2
    have hin:i<nB:=by omega
    refine A7 (Qa (B2 (Qd (Zc 2 J (Qd (Z 2 J (Fa Ec9 J (Lb o81 J ‹_› (by rfl) ?_))))))));refine Z 1 J (Ca fb42 J (bleast_c _ pb f nB i hin hbok.2.2 _ hL hI (fun x h=>by have:=h.2.1;omega)) ?_);rintro _ w5 ⟨rfl,hx5⟩;have hz5:=hx5.size;have hB3:=hB3.u hx5;have hFn:∀ x∈F7 A,¬ F x:=fun x hx h=>by have:=hFw x h;have:=hOb x hx;omega
    have hFn3:∀ x∈[b3],¬ F x:=fun x hx h=>by have:=hFw x h;have:=Ek3.1 hx;omega
    have hFq:∀ x∈F7 A,¬ FR w.heap.size w1.heap.size [] x:=fun x hx h=>by have:=h.2.1;have:=hOb x hx;omega
    have hFq3:∀ x∈[b3],¬ FR w.heap.size w1.heap.size [] x:=fun x hx h=>by have:=h.2.1;have:=Ek3.1 hx;omega
    have hLd:∀ x∈F7 A,4≤x:=fun x hx=>by have:=hOb x hx;omega
    refine Zc 5 J (Qb (Z 3 J (Fa Df9 J (Lb o44 J ‹_› (by rfl) ?_))));refine Z 1 J (B5 J (B7 Al4 Tryz.underlying44 zr5 J J J (by rfl)) ?_);intro b6 w6 hb6 hs6 hx6 hB6;have hC:=hC.s0 (hx5.s0 hx6);have hW:=hW.u (hx5.s0 hx6);have hL:=hL.u (hx5.s0 hx6);have hI:=hI.u (hx5.s0 hx6);have hM:=hM.u (hx5.s0 hx6);have hB3:=hB3.u hx6;have hO:=hO.u (hx5.s0 hx6);refine G1 J el44 J J hO (Blk.rd (F:=fun _=>True) ‹_› J trivial) (by rfl) (by omega) (by omega) ?_;intro A' c' w7 hO7 hx7 hA';have hC:=hC.step hx7 (by intro x h;have:=hOb x h;exact .inr (by omega));have hW:=hW.q hx7 ‹_›;have hL:=hL.q hx7 ‹_›;have hI:=hI.q hx7 ‹_›;have hM:=hM.q hx7 (by intro h;have:=hOb _ h;omega);have hB3:=hB3.q hx7 (by intro h;have:=hOb _ h;omega)
    replace hO:=hO7
    refine Z 1 J (Fa Df9 J (Pe sz44 J ‹_› J J ?_));intro w8 hs8 hx8 hB3;have hC:=hC.step hx8 (by simp;omega);have hW:=hW.q hx8 ‹_›;have hL:=hL.q hx8 (by simp;omega);have hI:=hI.q hx8 ‹_›;have hM:=hM.q hx8 (by simp;omega);have hO:=(by exact hO.q hx8 (by intro x hx;simp at hx;left;omega));refine Qc (Qb (Ad J J (by omega) (Zc 1 J ⟨(i+1,A',c'),sb J,?_,?_⟩)));refine ⟨hC,hW,hL,hI,hM,hB3,?_,hin⟩;have:E.bytes.take (i+1)=E.bytes.take i++[L8 (K3 f 256 i)]:=by rw [hE.2.2.1];exact Cv7 f nB i hin
    rw [this,show bys (E.bytes.take i++[L8 (K3 f 256 i)])=bys (E.bytes.take i)++bys [L8 (K3 f 256 i)] from by simp [bys]];exact hO;show nB - (i+1)<nB - i;omega
   ·try simp at h2
    have hii:i=nB:=by omega
    subst hii;rw [En0 (by omega)] at hO
    have hF2:∀ x,(F x∨FR w.heap.size w1.heap.size [] x)→x<b2:=fun x h=>by
     rcases h with h|h
     ·have:=hFw x h;omega
     ·have:=h.2.1;omega
    have hD:DOk (fun x=>F x∨FR w.heap.size w1.heap.size [] x) w9 b3 pa pb E ⟨[],[],false⟩ A c none 0 b2 []:=by
     refine ⟨?_,?_,?_,hF2,?_,Own.nil _ _ _ _,hM,by omega,⟨rfl,fun i hi=>absurd hi (by simp),fun i j hi=>absurd hi (by simp)⟩,fun x ⟨i,hi,_⟩=>absurd hi (by simp),fun x hx=>absurd hx (by simp),El0 _⟩
     ·unfold dC;rw [hll,hE.2.2.2.1];exact hB3
     ·rw [hE.2.2.2.2.1,hE.2.2.2.2.2];exact hW.mono (fun x h _=>.inl h)
     ·rw [hE.1,hE.2.1];exact hI.mono (fun x h _=>.inr h)
     ·rw [hll];exact hO
    refine Xb (Qa (Qd (Z 1 J (Ca fb43 J (Ee1 (fun x=>F x∨FR w.heap.size w1.heap.size [] x) b3 pa pb E A c b2 w _ hL0 (by rw [hE.2.2.2.2.2];exact hq) (by rw [hE.2.2.2.1];exact hbud) hlt (by omega) hC (by omega) hD) ?_))));rintro v9 w9 ⟨hC,Al,cl,ms,n,hD,hI2,hfl⟩;have hB0:=hD.blk;refine Qc (Qd (Z 2 J (Fa Ec8 J (Lb o4 J ‹_› (by rfl) ?_))))
    refine Qc (A4 J (fun h3=>?_) (fun h3=>?_))
    ·try simp at h3
     refine Qd (Zc 2 J (A6 (J1 J J J ?_)));rw [hP,Ek1 h3];exact ⟨hC,fun _=>rfl,fun l h=>by cases h⟩
    ·try simp at h3
     have hfull:(O5 E).full=false:=by simpa using h3
     have hnn:=hfl hfull;have hpos:=Cn8 E hfull;refine A7 (Qd (Z 1 J (Ca fb44 J (mark_c (fun x=>F x∨FR w.heap.size w1.heap.size [] x) b3 pa pb E _ A c Al cl b2 ms w _ hC (by omega) hD (by rw [hE.2.2.2.1];exact hbud) hI2.nv (fun i hi=>by rw [hI2.nx i hi,Ek1 (by omega)];omega)) ?_)));rintro v9 w10 ⟨hC,hD⟩;refine Qc (Qd (Zc 3 J (A6 (J1 J J J ?_))));rw [hP,Ek0 (by rw [hfull];simp)];refine ⟨hC,fun h=>(by cases h),fun l h=>?_⟩;injection h with h
     subst h;have hml:=Cl8 (O5 E).l;have hlb:=hD.lb;simp only [hml] at hlb
     refine ⟨b3,rfl,pa,pb,A,c,Al,cl,b2,ms,?_,.inr (by omega),hD.bl.mono (fun x h _=>h.elim .inl (fun h=>.inr h.1)),hD.ob.rd (fun x h _=>.inr (by omega)),hD.ol.rd (fun x h _=>.inr (by omega)),hD.sts,fun x hx=>.inr (by have:=hD.slo x hx;omega),?_⟩
     ·have:=hD.blk;unfold dC at this;simp only [hfull] at this;exact this
     ·refine ⟨by rw [hml];exact hpos,fun i hi=>?_,fun i hi=>?_,by rw [hll,hE.2.1],by rw [hE.2.1];exact hbok.2.2,fun b hb=>by rw [hE.1,hE.2.1];exact hbok.2.1 b hb,by rw [hml,hE.2.2.2.1] at*;omega,hlt⟩
      ·rw [hml] at hi;rw [(Bb5 _ i hi).2.2.1,hI2.nx i hi,Ek1 (by omega),hll,hE.2.1]
      ·rw [hml] at hi ⊢;rw [(Bb5 _ i hi).2.2.1];exact hI2.nv i hi
theorem Ap2 (F:Nat→Prop) (p:Nat) (E:DE) (l:List St) (w:World) (hD:IsDfa F w p E l):Calls P 15 #[.pointer (some ⟨p,0,none⟩)] w (Ret fun u w'=>u= .int .i64 (l.length:Nat)∧Chg [] w w'):=by
 have hC:=A8 [] w;obtain ⟨pa,pb,Ab,cb,Al,cl,bm,ms,h⟩:=hD;have hB0:=h.blk
 refine D4 Tryz.func15 J J (Qd (Zc 1 J (Qa (Qd (Z 1 J (C9 J (I0 Tryz.underlying31 J J) (Qc (A4 J (fun h0=>?_) (fun h0=>?_)))))))))
 ·try simp at h0
  all_goals cases h0
 ·try simp at h0
  refine A7 (Qd (Z 2 J (Fa Ac6 J (Lb o84 J ‹_› (by rfl) ?_))));exact Ln Tryz.underlying84 J (Zc 1 J (A6 (B4 J J ⟨rfl,hC⟩)))
theorem dhas_c (F:Nat→Prop) (p:Nat) (E:DE) (l:List St) (i:Int) (w:World) (hD:IsDfa F w p E l):Calls P 47 #[.pointer (some ⟨p,0,none⟩),.int .i64 i] w (Ret fun u w'=>u= .bool (decide (0≤i∧i<l.length))∧Chg [] w w'):=by
 have hC:=A8 [] w
 refine D4 Tryz.func47 J J (Qd (Zc 1 J (Qd (Z 3 J (C0 (d:=7) J (fun h1=>?_) (fun h1=>?_))))))
 ·try simp at h1
  refine Qu J (Z 1 J (Qu J (Z 1 J (Qu J (Ca fb15 J (Ap2 F p E l _ hD) ?_)))));rintro _ w1 ⟨rfl,hx1⟩;have hC:=hC.s0 hx1;exact Qu J (Zc 3 J (A6 (B4 J J ⟨H5 (by rw [El4,cmpB_lss,El7];omega),hC⟩)))
 ·try simp at h1
  exact Qk J (Qk J (Qk J (Qk J (Zc 2 J (A6 (B4 J J ⟨H5 (by rw [El4,El7];simp;omega),hC⟩))))))
def J7 (E:DE) (l:List St) (n b:Nat):Nat:=(l.getD n default).next.getD (E.f.getD b 0) 0
theorem Y8 {E:DE} {l:List St} (h:DGood E l) {n b:Nat} (hn:n<l.length) (hb:b<256):J7 E l n b<l.length:=by
 unfold J7;exact h.nv n hn _ (G9 _ 0 _ (by rw [h.nx n hn];exact h.fv b hb))
theorem Bn0 (F:Nat→Prop) (p:Nat) (E:DE) (l:List St) (n b:Nat) (hn:n<l.length) (hb:b<256) (w:World) (hD:IsDfa F w p E l):Calls P 16 #[.pointer (some ⟨p,0,none⟩),.int .i64 (n:Nat),.int .u8 (b:Nat)] w (Ret fun u w'=>u= .tuple #[.int .i64 (J7 E l n b:Nat),.bool true]∧Chg [] w w'):=by
 have hC:=A8 [] w;have hg:=hD.good;have hnx:=hg.nx n hn;have hfv:=hg.fv b hb;have hle:=hg.le;refine D4 Tryz.func16 J J (Qd (Zc 2 J (Qa (Qd (Z 2 J (Ca fb47 J (dhas_c F p E l n _ hD) ?_))))));rintro _ w1 ⟨rfl,hx1⟩;have hC:=hC.s0 hx1;have hD:=hD.u hx1
 refine Zc 1 J (A4 J (fun h1=>?_) (fun h1=>?_))
 ·try simp at h1
  omega
 ·try simp at h1
  obtain ⟨pa,pb,Ab,cb,Al,cl,bm,ms,h⟩:=hD;have hB0:=h.blk;have hI:=h.bl;have hk:=h.sts.ok n hn;have hBn:=hk.blk;have hOn:=hk.on;have hml:=h.sts.len;have hAl:∃ g off,Al=some ⟨g,off,none⟩:=by obtain ⟨g,off,h,_⟩:=h.rl.at_ (by omega);exact ⟨g,off,h⟩
  obtain ⟨g,off,rfl⟩:=hAl;have hR:=h.rl
  try have hlR:=hR.lt
  refine A7 (Qa (C8 (S:=[]) 16 [(0,0),(0,1),(0,2),(0,3),(0,4),(0,5),(0,6),(0,7),(0,8),(0,9),(0,10),(0,11),(0,12),(0,13),(0,14),(1,15),(2,16),(2,17),(2,18),(2,19)] mo (by kernel_rfl) ?_));intro w2 hx2 hh2;have hB0:=hB0.u hx2;have hI:=hI.u hx2;have hBn:=hBn.u hx2;have hR:=hR.u hx2;have hCS2:=A8 ([]) w2;have hcell:=(hR.one (W2 ms n (by omega))).2;refine Z 2 J (Fa Ac6 J (D6 J (B3 o84 J ‹_› (by simp;done) (by rfl)) ?_));refine Z 1 J (D6 J (B0 sl84 J J (by omega) (by omega)) (D6 J (E0 o92 J hcell (by simp;done)) ?_));refine Z 1 J (Fa Df8 J (D6 J (B3 o24 J ‹_› (by simp;done) (by rfl)) ?_));refine Z 2 J (Fa Ec9 J (D6 J (B3 o81 J ‹_› (by simp;done) (by rfl)) ?_));refine Z 1 J (C5 J (C3 fb48 J) (bof_c F pb E.f E.nB b hb _ hI) ?_);rintro _ w3 ⟨rfl,hx3⟩;have hC:=hC.s0 (hx2.s0 hx3);have hOn:=hOn.u (hx2.s0 hx3);have hCS2:=hCS2.s0 hx3;refine ⟨hCS2,?_⟩;have hrn:=hOn.rd (F:=fun _=>True) (fun _ _ _=>trivial);obtain ⟨g2,off2,hA2,_⟩:=hrn.at_ (by omega);rw [hA2] at hrn;have hcell2:=(hrn.one (Y6 (l.getD n default).next (E.f.getD b 0) (by omega))).2;simp only [hA2];exact C9 J (B0 T8 J J (by omega) (by omega)) (Lc o3 J hcell2 (Zc 2 J (A6 (J1 J J J ⟨rfl,hC⟩))))
theorem Dg7 (F:Nat→Prop) (p:Nat) (E:DE) (l:List St) (i:Int) (w:World) (hD:IsDfa F w p E l):Calls P 18 #[.pointer (some ⟨p,0,none⟩),.int .i64 i] w (Ret fun u w'=>u= .bool (decide (0≤i∧i<l.length) && (l.getD i.toNat default).meant)∧Chg [] w w'):=by
 have hC:=A8 [] w;have hle:=hD.good.le;refine D4 Tryz.func18 J J (Qd (Zc 1 J (Qd (Z 2 J (Ca fb47 J (dhas_c F p E l i _ hD) ?_)))));rintro _ w1 ⟨rfl,hx1⟩;have hC:=hC.s0 hx1;have hD:=hD.u hx1
 refine Z 1 J (C0 (d:=8) J (fun h1=>?_) (fun h1=>?_))
 ·try simp at h1
  have hi:0≤i∧i<l.length:=by simpa using h1
  obtain ⟨n,rfl⟩:=Ep8 hi.1;have hn:n<l.length:=by omega
  obtain ⟨pa,pb,Ab,cb,Al,cl,bm,ms,h⟩:=hD;have hB0:=h.blk;have hBn:=(h.sts.ok n hn).blk;have hml:=h.sts.len;have hAl:∃ g off,Al=some ⟨g,off,none⟩:=by obtain ⟨g,off,h,_⟩:=h.rl.at_ (by omega);exact ⟨g,off,h⟩
  obtain ⟨g,off,rfl⟩:=hAl;have hcell:=(h.rl.one (W2 ms n (by omega))).2;refine Qu J (Z 1 J (Qu J (Z 1 J (Qu J (Fa Ac6 J (Qu J (Lb o84 J ‹_› (by rfl) ?_)))))));refine Qu J (Z 1 J (Qu J (C9 J (B0 sl84 J J (by omega) (by omega)) (Qu J (Lc o92 J hcell (Qu J (Z 1 J (Qu J (Fa fl91_3 J (Qu J (Lb o4 J ‹_› (by rfl) ?_)))))))))));exact Zc 2 J (A6 (B4 J J ⟨H5 (by rw [El2 hi];rfl),hC⟩))
 ·try simp at h1
  exact Qk J (Qk J (Qk J (Qk J (Qk J (Qk J (Qk J (Qk J (Qk J (Qk J (Zc 2 J (A6 (B4 J J ⟨H5 (by rw [El3 (by simpa using h1)];rfl),hC⟩))))))))))))
def Bw2 (E:DE) (l:List St) (L:List Nat):Nat:=L.foldl (J7 E l) 0
theorem Cy1 {E:DE} {l:List St} (h:DGood E l):∀ (L:List Nat) (n:Nat),n<l.length→(∀ b∈L,b<256)→L.foldl (J7 E l) n<l.length
 |[],n,hn,_=>hn
 |b::r,n,hn,hb=>Cy1 h r _ (Y8 h hn (hb b (Em1 ..))) (fun x hx=>hb x (Em8 _ hx))
theorem R5 (s:ByteArray):∀ b∈B6 s,b<256:=by
 intro b hb;obtain ⟨u,_,rfl⟩:=Eo9.1 hb;exact UInt8.toNat_lt u
theorem drun_c (F:Nat→Prop) (p:Nat) (E:DE) (l:List St) (s:ByteArray) (hs:s.size≤1000000000) (w:World) (hD:IsDfa F w p E l):Calls P 19 #[.pointer (some ⟨p,0,none⟩),.string s] w (Ret fun u w'=>u= .int .i64 (Bw2 E l (B6 s):Nat)∧Chg [] w w'):=by
 have hC:=A8 [] w;have hg:=hD.good;have hsl:=E5 s;have hlt:=R5 s
 refine D4 Tryz.func19 J J (Qd (Zc 1 J (Qd (Zc 1 J (Qa (Qd (Z 1 J (C9 J (E9 Tryz.underlying9 J) (Zc 1 J (B2 (D8 (σ:=Nat) (fun i=>[(0,.pointer (some ⟨p,0,none⟩)),(1,.string s),(5,.int .i64 (((B6 s).take i).foldl (J7 E l) 0:Nat)),(8,.int .i64 (s.size:Nat)),(9,.int .i64 i)]) (fun i wr=>Chg [] w wr∧IsDfa F wr p E l∧i≤s.size) (fun i wr=>s.size - i) 0 (sb J) ?_ ?_)))))))))))
 ·exact ⟨hC,hD,El0 _⟩
 rintro i w9 ⟨hC,hD,hi⟩
 refine Qd (Zc 1 J (Qa (A4 J (fun h1=>?_) (fun h1=>?_))))
 ·try simp at h1
  have hin:i<s.size:=by omega
  obtain ⟨u8,hu,hu2⟩:=I5 s i hin;have hst:((B6 s).take i).foldl (J7 E l) 0<l.length:=Cy1 hg _ 0 hg.pos (fun b hb=>hlt b (List.mem_of_mem_take hb));refine A7 (Qa (B2 (Qd (Zc 2 J (Qb (Z 4 J (C9 J (Does.to (E7 Tryz.underlying9 J J (by omega) (by exact hu)) (J4 (show ((u8.toNat:Nat):Int)=(((B6 s).getD i 0:Nat):Int) by rw [hu2]))) ?_)))))));refine Ca fb16 J (Bn0 F p E l (((B6 s).take i).foldl (J7 E l) 0) ((B6 s).getD i 0) hst (hlt _ (G9 _ 0 i (by omega))) _ hD) ?_;rintro _ w1 ⟨rfl,hx1⟩;have hC:=hC.s0 hx1;have hD:=hD.u hx1;refine Zc 4 J (Qb (Ad J J (by omega) (Zc 1 J ⟨i+1,⟨rfl,rfl,(G2 J (by rw [Au3 _ _ _ 0 i (by omega)])),rfl,rfl,trivial⟩,?_,?_⟩)));exact ⟨hC,hD,hin⟩;omega
 ·try simp at h1
  exact Xb (Qd (Zc 2 J (A6 (B4 J J ⟨J4 (by unfold Bw2;rw [En0 (by omega)]),hC⟩))))
theorem dmeans_c (F:Nat→Prop) (p:Nat) (E:DE) (l:List St) (s:ByteArray) (hs:s.size≤1000000000) (w:World) (hD:IsDfa F w p E l):Calls P 23 #[.pointer (some ⟨p,0,none⟩),.string s] w (Ret fun u w'=>u= .bool (l.getD (Bw2 E l (B6 s)) default).meant∧Chg [] w w'):=by
 have hC:=A8 [] w;have hg:=hD.good;have hlt:=Cy1 hg (B6 s) 0 hg.pos (R5 s);refine D4 Tryz.func23 J J (Qd (Zc 1 J (Qd (Z 3 J (Ca fb19 J (drun_c F p E l s hs _ hD) ?_)))));rintro _ w1 ⟨rfl,hx1⟩;have hD:=hD.u hx1;refine Ca fb18 J (Dg7 F p E l _ _ hD) ?_;rintro _ w2 ⟨rfl,hx2⟩;have hC:=hC.s0 (hx1.s0 hx2);exact Zc 1 J (A6 (B4 J J ⟨H5 (by rw [Ek9,El2 (by unfold Bw2;omega)];rfl),hC⟩))
theorem clone_c (l:List Nat) (F:Nat→Prop) (A:Option Addr) (c:Nat) (w:World) (hn:0<l.length) (hn2:l.length≤1000000) (hF:∀ x,F x→x<w.heap.size) (hr:Rd F w 1 A l.length (bys l)):Calls P 51 #[.slice A l.length c] w (Ret fun u w'=>Chg [] w w'∧∃ A' c',u= .slice A' l.length c'∧Own w' w.heap.size 5 1 A' l.length c' (bys l)):=by
 have hC:=A8 [] w;have hA:∃ g off,A=some ⟨g,off,none⟩:=by obtain ⟨g,off,h,_⟩:=hr.at_ hn;exact ⟨g,off,h⟩
 obtain ⟨g,off,rfl⟩:=hA
 have hb1:(bys l).all Value.oneCell'=true:=by
  clear hr hn hn2
  induction l with
  |nil=>rfl
  |cons b r ih=>simp only [bys,En3,List.all_cons,Ek6] at*;exact ⟨rfl,ih⟩
 refine D4 Tryz.func51 J J (Qd (Zc 1 J (Qa (Qd (Z 1 J (C9 J (Ej8 Tryz.underlying44 J J) (Qc (E4 (rfl) (A7 (Qd (B5 J (B7 Al4 Tryz.underlying44 zr5 J J J (by rfl)) ?_)))))))))));intro b1 w1 hb1 hs1 hx1 hB1;have hz1:=hx1.size;have hC:=hC.s0 hx1;have hr:=hr.u hx1;have hO:Own w1 w.heap.size 5 1 (some ⟨b1,0,none⟩) 0 0 []:=Blk.own (cs:=[]) ‹_› J (by omega) (by omega);have hOb:=hO.blk;refine Z 1 J (G1 J el44 J J hO (hr) ‹_› (by omega) (by omega) ?_);intro A' c' w2 hO2 hx2 hA';have hC:=hC.step hx2 (by intro x h;have:=hOb x h;exact .inr (by omega))
 replace hO:=hO2
 refine Zc 1 J (A6 (B4 J J ?_));rw [El6,Ek8] at hO;exact ⟨hC,A',c',by rw [El6],hO⟩
theorem Cf0 (F:Nat→Prop) (p:Nat) (E:DE) (l:List St) (w:World) (hF:∀ x,F x→x<w.heap.size) (hD:IsDfa F w p E l):Calls P 22 #[.pointer (some ⟨p,0,none⟩)] w (Ret fun u w'=>Chg [] w w'∧∃ A' c',u= .slice A' E.bytes.length c'∧Own w' w.heap.size 5 1 A' E.bytes.length c' (bys E.bytes)):=by
 have hC:=A8 [] w;have hg:=hD.good;have hfv:=hg.fv 0 (by decide);have hbl:=hg.bl;have hnb:=hg.nb;obtain ⟨pa,pb,Ab,cb,Al,cl,bm,ms,h⟩:=hD;have hB0:=h.blk;have hR:=h.rb
 try have hlR:=hR.lt
 refine D4 Tryz.func22 J J (Qd (Zc 1 J (Qa (Qd (Z 1 J (C9 J (I0 Tryz.underlying31 J J) (Qc (A4 J (fun h0=>?_) (fun h0=>?_)))))))))
 ·try simp at h0
  all_goals cases h0
 ·try simp at h0
  refine A7 (Qd (Z 2 J (Fa Df9 J (Lb o44 J ‹_› (by rfl) ?_))));refine Ca fb51 J (clone_c E.bytes F Ab cb _ (by omega) (by omega) hF hR) ?_;rintro v9 w1 ⟨hx1,A',c',rfl,hO⟩;have hC:=hC.s0 hx1;exact Zc 1 J (A6 (B4 J J ⟨hC,A',c',rfl,hO⟩))
def rangeOk (l:List Int):Prop:=∀ x∈l,0≤x∧x≤9223372036854775807
theorem rangeOk.get {l:List Int} (h:rangeOk l) (i:Nat):0≤l.getD i 0∧l.getD i 0≤9223372036854775807:=by
 by_cases hi:i<l.length
 ·exact h _ (G9 l 0 i hi)
 ·rw [Ek2,El5 (by omega)];simp
end Go.Clt
section
namespace Go.Clt
open Go
mutual
def synB:Syn→Bool
 | .node _ s _ _ _ l _ _=>decide (s<2 ^ 256) && decide (l.length≤2000000) && synsB l
def synsB:List Syn→Bool
 |[]=>true
 |t::r=>synB t && synsB r
end
mutual
theorem Di5:∀ (t:Syn),synB t=true→SynOk t
 | .node k s mn mx lz l a b,h=>by
  rw [synB,Ek6,Ek6] at h;rw [SynOk];exact ⟨(Eo7 h.1.1:s<2 ^ 256),Eo7 h.1.2,Cq7 l h.2⟩
theorem Cq7:∀ (l:List Syn),synsB l=true→SynsOk l
 |[],_=>trivial
 |t::r,h=>by
  rw [synsB,Ek6] at h;exact ⟨Di5 t h.1,Cq7 r h.2⟩
end
def strB:ByteArray:=⟨#[97,42,98]⟩
def sB:List Nat:=B6 strB
def cB:Cor:=(S4 sB 0).1
def kB:Kn:=(T6 cB).1
def qB:Wst:=(T6 cB).2
def lB:List St:=(Dp2 kB qB 10).getD []
def EB:DE:=Bv9 kB qB 10
theorem okB:SynOk (M5 sB).1∧Q8 (M5 sB).1≤100000000:=⟨Di5 _ (by decide+kernel),by decide+kernel⟩
theorem noB:(S4 sB 0).2.2=0:=by decide+kernel
theorem lenB:(L6 cB).length=2:=by decide+kernel
theorem lenqB:qB.S.length=2:=by decide+kernel
theorem dfaB:Dp2 kB qB 10=some lB:=by
 have h:(Dp2 kB qB 10).isSome=true:=by decide+kernel
 unfold lB
 cases hd:Dp2 kB qB 10 with
 |none=>rw [hd] at h;cases h
 |some l=>rfl
end Go.Clt
end
namespace Go.Clt
open Go Go.RowKit Go.Proofs
theorem Cz6 (s:ByteArray) (mode:Int) (w:World) (hL:Laid w) (hok:(M5 (B6 s)).2.2=0→SynOk (M5 (B6 s)).1∧Q8 (M5 (B6 s)).1≤100000000) (hsz:(S4 (B6 s) mode).2.2=0→(L6 (S4 (B6 s) mode).1).length≤600):
  Calls P 39 #[.string s,.int .i64 mode] w (Ret fun u w'=>Chg [] w w'∧((S4 (B6 s) mode).2.2≠0→u= .tuple #[.pointer none,.int .i64 (S4 (B6 s) mode).2.1,.int .i64 (S4 (B6 s) mode).2.2])∧((S4 (B6 s) mode).2.2=0→∃ p,u= .tuple #[.pointer (some ⟨p,0,none⟩),.int .i64 0,.int .i64 0]∧IsAut (FR w.heap.size w'.heap.size []) w' p (T6 (S4 (B6 s) mode).1).1 (T6 (S4 (B6 s) mode).1).2)):=by
 have hC:=A8 [] w;refine D4 Tryz.func39 J J (Qd (Zc 3 J (Qd (Z 2 J (Ca fb61 J (Bn6 s mode _ hL hok) ?_)))));rintro _ w1 ⟨hx1,ad,rfl,hT,hN⟩;have hz1:=hx1.size;have hC:=hC.s0 hx1
 refine Zc 7 J (Qa (Qd (Zc 2 J (A4 J (fun h1=>?_) (fun h1=>?_)))))
 ·try simp at h1
  refine Qd (Zc 5 J (A6 (O9 J J J J ?_)));obtain rfl:=hN h1;exact ⟨hC,fun _=>rfl,fun h=>absurd h h1⟩
 ·try simp at h1
  have h1':(S4 (B6 s) mode).2.2=0:=by simpa using h1
  have hT:=hT h1';refine A7 (Qd (Z 1 J (Ca fb37 J (anew_c _ _ (FR w.heap.size w1.heap.size []) _ hT (fun x h=>h.2.1) (by have:=hsz h1';omega)) ?_)));rintro v9 w2 ⟨hx2,hbig,hsm⟩;have hC:=hC.s0 hx2;obtain ⟨p,rfl,hA⟩:=hsm (hsz h1');exact Zc 5 J (Qd (Zc 5 J (A6 (O9 J J J J ⟨hC,fun h=>absurd h1' h,fun _=>⟨p,rfl,hA.mono (fun x h _=>⟨by have:=h.1;omega,h.2.1,h.2.2⟩)⟩⟩))))
theorem Bz3 {p:Go.Program} {f:FuncId} {args:Array Value} {w:World} {T U:Value→World→Prop} (h:Calls p f args w (Ret T)) (hu:∀ u w',T u w'→U u w'):Calls p f args w (Ret U):=
 Calls.mono h fun e w'' he=>by
  cases e with
  |returned v=>exact hu _ _ he
  |panicked c=>exact he.elim
  |outgrown=>exact he.elim
theorem autoB (w:World) (hL:Laid w):Calls P 39 #[.string strB,.int .i64 0] w (Ret fun u w'=>Chg [] w w'∧∃ p,u= .tuple #[.pointer (some ⟨p,0,none⟩),.int .i64 0,.int .i64 0]∧IsAut (FR w.heap.size w'.heap.size []) w' p kB qB):=
 Bz3 (Cz6 strB 0 w hL (fun _=>okB) (fun _=>by have:=lenB;unfold cB sB at this;omega)) fun _ _ ⟨hC,_,h⟩=>⟨hC,h noB⟩
theorem dfaB_c (p:Nat) (F:Nat→Prop) (w:World) (hW:IsAut F w p kB qB) (hF:∀ x,F x→x<w.heap.size) (hL:Laid w):Calls P 13 #[.pointer (some ⟨p,0,none⟩),.int .i64 10] w (Ret fun u w'=>Chg [] w w'∧∃ p,u= .tuple #[.pointer (some ⟨p,0,none⟩),.int .i64 0]∧IsDfa (fun x=>x<w'.heap.size) w' p EB lB):=
 Bz3 (dnew_c F p kB qB 10 w hW hF hL (by rw [lenqB];omega) (by omega)) fun _ _ ⟨hC,_,h⟩=>⟨hC,by obtain ⟨p,h1,h2⟩:=h _ dfaB;exact ⟨p,h1,h2.mono fun _ _ h=>h⟩⟩
end Go.Clt
