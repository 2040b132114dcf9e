import Derived.Test.YtckdapbopihofaaGreatDoorPl6
/- The word of any place, any word's place, and the next one (WordsPlaces). A part of that proof: Ref28, Ref29, Ref30, Ref31, Ref32, Ref33, Ref34, Ref20, Ref35, Ref36, Ref37, Ref38, Ref39, Ref40, LawS, LawM, Ref41, Ref42, Eq5. Conditions: none beyond the statement's own. By an AI agent; no person has read it. -/
set_option linter.unusedVariables false
set_option linter.unusedSimpArgs false
set_option maxRecDepth 8000
set_option maxHeartbeats 4000000
namespace Go.Clt
open Go Go.RowKit Go.Proofs
section
section
variable {P:Program} {n:Nat} {e:Env} {dst:Option Tmp} {t:TypeId} {p:String} {af:Array Edge} {g:Option (Nat × Bool)} {φ:World→Prop}
theorem Cr0 {τ:TypeId} {sz:Nat} {x y:Operand} {b o m c:Nat} {k:IntKind} {i:Int} (ht:slB P τ sz=true) (hx:ev e x=some (.slice (some ⟨b,o,none⟩) m c)) (hy:ev e y=some (.int k i)) (h0:0≤i) (h1:i≤m) (h2:i<c):
  Does P n e ⟨dst,.slice τ x (some y) none none,t,p,af,g⟩ φ (.slice (some ⟨b,o+i.toNat*sz,none⟩) (m - i.toNat) (c - i.toNat)):=fun a w ha _=>by
 obtain ⟨el,inf,hu,hi,hs⟩:=Bg1 ht;have h:0≤i∧i≤m:=⟨h0,h1⟩;have h3:¬ c=i.toNat:=by omega
 simp [execOp,ha.ev hx,ha.ev hy,Instr.sliceAt,Instr.slice,run_underlying hu,Instr.sliceBounds,Instr.sliceBound,asIntOf,h,sizeOf,typeInfo,hi,hs,h3,Addr.add]
end
theorem N8.cells {F:Nat→Prop} {w:World} {t:R8} {cs:List Value} (h:N8 F w t cs):∃ a0 a1 a2 a3 a4 a5 a6,cs=[a0,a1,a2,a3,a4,a5,a6]:=by
 cases t with
 |node k s lz l=>
  rw [N8] at h;obtain ⟨A,c,css,rfl,_⟩:=h;exact ⟨_,_,_,_,_,_,_,rfl⟩
theorem N8.one1 {F:Nat→Prop} {w:World} {t:R8} {cs:List Value} (h:N8 F w t cs):cs.all Value.oneCell'=true:=by
 cases t with
 |node k s lz l=>
  rw [N8] at h;obtain ⟨A,c,css,rfl,_⟩:=h
  rfl
theorem N8r.snoc {F:Nat→Prop} {w:World} {t:R8} {cs:List Value}:∀ {l:List R8} {css:List (List Value)},N8r F w l css→N8 F w t cs→N8r F w (l++[t]) (css++[cs])
 |[],css,h,ht=>by
  rw [N8r] at h;subst h;show N8r F w [t] [cs];rw [N8r];exact ⟨cs,[],rfl,ht,by rw [N8r]⟩
 |u::r,css,h,ht=>by
  rw [N8r] at h;obtain ⟨cu,rest,rfl,h2,h3⟩:=h;show N8r F w (u::(r++[t])) (cu::(rest++[cs]));rw [N8r];exact ⟨cu,rest++[cs],rfl,h2,N8r.snoc h3 ht⟩
theorem N8r.row {F:Nat→Prop} {w:World}:∀ {l:List R8} {css:List (List Value)},N8r F w l css→∀ k,k<l.length→∀ j v,(css.getD k [])[j]?=some v→(List.flatten css)[k*7+j]?=some v
 |[],css,h,k,hk=>by simp at hk
 |t::r,css,h,k,hk=>by
  rw [N8r] at h;obtain ⟨cs,rest,rfl,h2,h3⟩:=h;intro j v hv;have hlen:=h2.len;rw [List.flatten_cons]
  cases k with
  |zero=>
   rw [Em6 (by have:=(Em5.1 hv).1;simp at this;omega)]
   simpa using hv
  |succ k=>
   rw [Em2 (by omega),show (k+1)*7+j - cs.length=k*7+j by omega];exact N8r.row h3 k (by simpa using hk) j v (by simpa using hv)
theorem Cu5 {F:Nat→Prop} {w:World} (k:Int) (s:Nat) (lz:Bool):N8 F w (.node k s lz []) (n8C k s lz none 0 0):=by
 rw [N8];exact ⟨none,0,[],rfl,Rd.nil _ _ _ _,by rw [N8r]⟩
theorem An7 (F:Nat→Prop) (w:World):N8 F w default [.int .i64 0,.int .u64 0,.int .u64 0,.int .u64 0,.int .u64 0,.bool false,.slice none 0 0]:=by
 have h:=Cu5 (F:=F) (w:=w) 0 0 false;unfold n8C at h;rw [C6] at h;exact h
theorem n8_one {F F':Nat→Prop} {w:World} {b:Nat} {n:R8} {cs:List Value} (k:Int) (s:Nat) (lz:Bool) (hB:Blk w b cs 73) (hF:F b) (hn:N8 F' w n cs) (hm:∀ z,F' z→z<w.heap.size→F z):N8 F w (.node k s lz [n]) (n8C k s lz (some ⟨b,0,none⟩) 1 1):=by
 have hlen:=hn.len;rw [N8];refine ⟨some ⟨b,0,none⟩,1,[cs],rfl,by simpa using hB.rd (sz:=7) (m:=1) (by simp [hlen]) hF,?_⟩;rw [N8r];exact ⟨cs,[],rfl,hn.mono hm,by rw [N8r]⟩
theorem n8_node {F:Nat→Prop} {w:World} {A:Option Addr} {c:Nat} {l:List R8} {css:List (List Value)} (k:Int) (s:Nat) (lz:Bool) (hr:Rd F w 7 A l.length (List.flatten css)) (hI:N8r F w l css):N8 F w (.node k s lz l) (n8C k s lz A l.length c):=by
 rw [N8];exact ⟨A,c,css,rfl,hr,hI⟩
def Ej9 (k:Int) (l:List R8):Prop:=∀ (css:List (List Value)) (A:Option Addr) (c:Nat) (F:Nat→Prop) (w:World),l.length≤c→l.length≤1000000→(∀ x,F x→x<w.heap.size)→Rd F w 7 A l.length (List.flatten css)→N8r F w l css→Calls P 122 #[.int .i64 k,.slice A l.length c] w (Ret fun u w'=>Chg [] w w'∧∃ cs,u= .agg cs.toArray∧N8 (fun x=>F x∨(w.heap.size≤x∧x<w'.heap.size)) w' (S5 k l) cs)
theorem Bc4 (k:Int) (l:List R8) (hr0:∀ a b r,l=a::b::r→Ej9 k (b::r)):Ej9 k l:=by
 intro css A c F w hlc hlm hF hr hI;have hC:=A8 [] w;refine D4 Tryz.func122 J J (Qd (B5 J (B8 Ar2 J) ?_));intro b1 w1 hb1 hs1 hx1 hB1;have hC:=hC.s0 hx1;have hr:=hr.u hx1;have hI:=hI.u hx1
 refine Qc (Qa (Qd (Z 1 J (Ln Tryz.underlying71 J (Zc 1 J (A4 J (fun h0=>?_) (fun h0=>?_)))))))
 ·try simp at h0
  subst h0;refine Qd (C9 J (B1 Ar2 Dc7 J (by rfl)) ?_);refine Pe Al7 J ‹_› J J ?_;intro w2 hs2 hx2 hB1;have hC:=hC.step hx2 (by simp;omega);refine Qc (A6 (D5 J J (A5 M9 ‹_› J J) ?_));rw [S5];exact ⟨hC,_,rfl,An7 _ _⟩
 ·try simp at h0
  refine A7 (Qa (Qd (Z 1 J (Ln Tryz.underlying71 J (Zc 1 J (A4 J (fun h1=>?_) (fun h1=>?_)))))))
  ·try simp at h1
   obtain ⟨a,rfl⟩:∃ a,l=[a]:=List.length_eq_one_iff.1 (by omega);obtain ⟨_,off,rfl,hFg,hlt,hcell⟩:=hr.at_ (by show 0<1;omega);rw [N8r] at hI;obtain ⟨ca,rest,rfl,ha,hrest⟩:=hI;rw [N8r] at hrest;subst hrest;have hone:=ha.one1;obtain ⟨a0,a1,a2,a3,a4,a5,a6,rfl⟩:=ha.cells;refine Qd (Z 1 J (C9 J (C2 Am0 J J (by omega) (by omega)) (C9 J (E8 (vs:=[a0,a1,a2,a3,a4,a5,a6]) M9 J (F4 _) (fun j v hj=>hcell j v (by simpa using hj)) J) ?_)));refine Pb (cs':=[a0,a1,a2,a3,a4,a5,a6]) Al7 J J hB1 J J hone J J ?_;intro w3 hs3 hx3 hB1;have hC:=hC.step hx3 (by simp;omega);have ha:=ha.q hx3 (by intro b hb hFb;have:=hF _ hFb;simp at hb;omega);refine Qc (A6 (D5 J J (A5 M9 ‹_› J J) ?_));rw [S5];exact ⟨hC,_,rfl,ha.mono fun x h _=>.inl h⟩
  ·try simp at h1
   obtain ⟨a,b,r,rfl⟩:∃ a b r,l=a::b::r:=by
    match l,h0,h1 with
    |[],h0,_=>exact absurd J h0
    |[_],_,h1=>exact absurd J h1
    |a::b::r,_,_=>exact ⟨a,b,r,rfl⟩
   rw [N8r] at hI;obtain ⟨ca,rest,rfl,ha,hI⟩:=hI;have hla:=ha.len;have hlr:(a::b::r).length=(b::r).length+1:=rfl;refine A7 (Qa (C8 (S:=[]) 8 [(0,0),(0,1),(0,2),(0,3),(0,4),(0,5),(0,6),(1,7),(2,8),(2,9)] mo (by kernel_rfl) ?_));intro w4 hx4 hh4;have hr:=hr.u hx4;have ha:=ha.u hx4;have hI:=hI.u hx4;have hCS4:=A8 ([]) w4;obtain ⟨gA,off,rfl,hFg,hlt,hcell⟩:=hr.at_ (by simp);have hone:=ha.one1;obtain ⟨a0,a1,a2,a3,a4,a5,a6,rfl⟩:=ha.cells;refine Z 2 J (D6 J (C2 Am0 J J (by omega) (by omega)) (D6 J (J5 (vs:=[a0,a1,a2,a3,a4,a5,a6]) M9 J ⟨hlt,fun j v hj=>hcell j v (by rw [List.flatten_cons,Em6 (Em5.1 hj).1];exact hj)⟩ (by simp;done) J) ?_));refine Z 2 J (D6 J (Cr0 Am0 J J (by omega) (by rw [hlr];omega) (by omega)) ?_);have hr2:Rd F w4 7 (some ⟨gA,off+7,none⟩) (b::r).length (List.flatten rest):=⟨by have:=hr.len;simp at this ⊢;omega,fun _=>⟨gA,off+7,rfl,hFg,hlt,fun j v hj=>by rw [Em3];exact hcell (7+j) v (by rw [List.flatten_cons,Em2 (by simp)];simpa using hj)⟩⟩;refine C5 J (C3 fb122 J) (hr0 a b r J rest _ _ F _ (by omega) (by omega) (fun z hz=>by have:=hF z hz;omega) ‹_› ‹_›) ?_;rintro _ w5 ⟨hx5,cs1,rfl,hn1⟩;have hz5:=hx5.size;have ha:=ha.u hx5;have hCS4:=hCS4.s0 hx5;refine ⟨hCS4,?_⟩;refine Ca Cn6 J (Am7 k a (S5 k (b::r)) _ _ _ _ (fun z hz=>by rcases hz with h|h;have:=hF z h;omega;omega) (ha.mono fun z h _=>.inl h) hn1) ?_;rintro _ w6 ⟨hx6,cs2,rfl,hn2⟩;have hB1:=hB1.u ((hx4.s0 hx5).s0 hx6);have hn2:=hn2.mono (F':=fun x=>x≠b1∧True∧(F x∨w.heap.size≤x)) (fun z h hzl=>by rcases h with (h|h)|h;exact ⟨by have:=hF z h;omega,trivial,.inl h⟩;exact ⟨by omega,trivial,.inr (by omega)⟩;exact ⟨by omega,trivial,.inr (by omega)⟩);have hone2:=hn2.one1;obtain ⟨d0,d1,d2,d3,d4,d5,d6,rfl⟩:=hn2.cells;refine Pb (cs':=[d0,d1,d2,d3,d4,d5,d6]) Al7 J J hB1 J J hone2 J J ?_;intro w7 hs7 hx7 hB1;have hC:=hC.step (((hx4.j hx5).j hx6).j hx7) (by simp<;>omega);have hn2:=hn2.q hx7 (by simp;done);refine Qc (A6 (D5 J J (A5 M9 ‹_› J J) ?_));rw [S5];exact ⟨hC,_,rfl,hn2.mono fun z h hzl=>by rcases h.2.2 with h|h;exact .inl h;exact .inr ⟨by omega,hzl⟩⟩
theorem Bz5 (k:Int):∀ l:List R8,Ej9 k l
 |[]=>Bc4 k [] fun a b r h=>by cases h
 |[a]=>Bc4 k [a] fun a b r h=>by cases h
 |a::b::r=>Bc4 k _ fun a' b' r' h=>by cases h;exact Bz5 k (b::r)
end
def innR (r:R8) (lz:Bool):Nat→R8
 |0=>r
 |n+1=>Ag6 2 r (U2 r lz n)
def Da1 (r:R8) (lz:Bool) (m:Nat):Prop:=∀ (cs:List Value) (F:Nat→Prop) (w:World) (n:Int),n=(m:Int)+1→(∀ x,F x→x<w.heap.size)→N8 F w r cs→Calls P 123 #[.agg cs.toArray,.int .i64 n,.bool lz] w (Ret fun u w'=>Chg [] w w'∧∃ cs',u= .agg cs'.toArray∧N8 (fun x=>F x∨(w.heap.size≤x∧x<w'.heap.size)) w' (U2 r lz m) cs')
theorem Bo3 (r:R8) (lz:Bool) (m:Nat) (hm:m≤1000000) (hr0:∀ k,m=k+1→Da1 r lz k):Da1 r lz m:=by
 intro cs F w n hn0 hF hr;have hC:=A8 [] w;have hE:U2 r lz m=optR lz (innR r lz m):=by cases m<;>rfl
 have hone:=hr.one1;obtain ⟨a0,a1,a2,a3,a4,a5,a6,rfl⟩:=hr.cells;refine D4 Tryz.func123 J J (Qd (B5 J (E1 J J) ?_));intro b1 w1 hb1 hs1 hx1 hB1;refine B5 J (B8 Ar2 J) ?_;intro b2 w2 hb2 hs2 hx2 hB2;have hB1:=hB1.u hx2;refine Qc (Qd (La M9 J ‹_› J J ?_));refine B5 J (B8 Ar2 J) ?_;intro b3 w3 hb3 hs3 hx3 hB3;have hr:=hr.u ((hx1.s0 hx2).s0 hx3);refine Pb (cs':=[a0,a1,a2,a3,a4,a5,a6]) Al7 J J hB3 J J hone J J ?_;intro w4 hs4 hx4 hB3;have hC:=hC.step (((hx1.j hx2).j hx3).j hx4) (by simp<;>omega);have hr:=hr.q hx4 (by intro b hb hFb;have:=hF _ hFb;simp at hb;omega);have hB1:=hB1.q (hx3.j hx4) (by simp<;>omega);have hB2:=hB2.q (hx3.j hx4) (by simp<;>omega)
 refine Qc (I3 (fun e9 wr=>∃ cs2,Sub [(2,.bool lz),(6,.pointer (some ⟨b2,0,none⟩)),(7,.pointer (some ⟨b3,0,none⟩))] e9∧Chg [] w wr∧Blk wr b2 [.int .i64 0,.int .u64 0,.int .u64 0,.int .u64 0,.int .u64 0,.bool false,.slice none 0 0] 73∧Blk wr b3 cs2 73∧N8 (fun x=>x≠b3∧x≠b2∧(F x∨w.heap.size≤x)) wr (innR r lz m) cs2) ?_ ?_)
 ·refine Qd (Zc 2 J (A4 J (fun h1=>?_) (fun h1=>?_)))
  ·try simp at h1
   obtain ⟨k,rfl⟩:∃ k,m=k+1:=⟨m - 1,by omega⟩;refine C8 (S:=[]) 6 [(0,0),(0,1),(0,2),(0,3),(0,4),(1,5),(2,6),(2,7)] mo (by kernel_rfl) ?_;intro w5 hx5 hh5;have hr:=hr.u hx5;have hB1:=hB1.u hx5;have hCS5:=A8 ([]) w5;refine D6 J (C1 M9 J ‹_› (by simp;done) J J) ?_;refine D6 J (C1 M9 J ‹_› (by simp;done) J J) ?_;refine Z 1 J (Su J J (by omega) (Z 1 J (C5 J (C3 fb123 J) (hr0 k J _ F _ _ (by omega) (fun z hz=>by have:=hF z hz;omega) hr) ?_)));rintro _ w6 ⟨hx6,cs1,rfl,hn1⟩;have hz6:=hx6.size;have hr:=hr.u hx6;have hCS5:=hCS5.s0 hx6;refine ⟨hCS5,?_⟩;refine Ca Cn6 J (Am7 2 r (U2 r lz k) _ _ _ _ (fun z hz=>by rcases hz with h|h;have:=hF z h;omega;omega) (hr.mono fun z h _=>.inl h) hn1) ?_;rintro _ w7 ⟨hx7,cs3,rfl,hn2⟩;have hB3:=hB3.u ((hx5.s0 hx6).s0 hx7);have hn2:=hn2.mono (F':=fun x=>x≠b3∧x≠b2∧(F x∨w.heap.size≤x)) (fun z h hzl=>by rcases h with (h|h)|h;exact ⟨by have:=hF z h;omega,by have:=hF z h;omega,.inl h⟩;exact ⟨by omega,by omega,.inr (by omega)⟩;exact ⟨by omega,by omega,.inr (by omega)⟩);have hone2:=hn2.one1;obtain ⟨d0,d1,d2,d3,d4,d5,d6,rfl⟩:=hn2.cells;refine Pb (cs':=[d0,d1,d2,d3,d4,d5,d6]) Al7 J J hB3 J J hone2 J J ?_;intro w8 hs8 hx8 hB3;have hC:=hC.step (((hx5.j hx6).j hx7).j hx8) (by simp<;>omega);have hB2:=hB2.q (((hx5.j hx6).j hx7).j hx8) (by simp<;>omega);have hn2:=hn2.q hx8 (by simp;done);refine Qc ⟨[d0,d1,d2,d3,d4,d5,d6],sb J,?_⟩;exact ⟨hC,hB2,hB3,hn2⟩
  ·try simp at h1
   have hm0:m=0:=by omega
   subst hm0;refine A7 ⟨[a0,a1,a2,a3,a4,a5,a6],sb J,?_⟩;exact ⟨hC,hB2,hB3,hr.mono fun z h _=>⟨by have:=hF z h;omega,by have:=hF z h;omega,.inl h⟩⟩
 rintro e9 w9 ⟨cs2,hs9,hC,hB2,hB3,hn⟩;refine I2 _ hs9 ?_;clear hs9 e9;have hl3:=hB3.lt;rw [hE];generalize innR r lz m=q at*;have hone3:=hn.one1;obtain ⟨d0,d1,d2,d3,d4,d5,d6,rfl⟩:=hn.cells
 refine Qa (Qd (Zc 1 J (A4 J (fun h4=>?_) (fun h4=>?_))))
 ·try simp at h4
  subst h4;refine Qd (C9 J (B1 Ar2 Dc7 J (by rfl)) ?_);refine La M9 J ‹_› J J ?_;refine Ca Cn6 J (Am7 3 default q [.int .i64 0,.int .u64 0,.int .u64 0,.int .u64 0,.int .u64 0,.bool false,.slice none 0 0] _ _ _ (fun z hz=>by rcases hz.2.2 with h|h;have:=hF z h;omega;exact hz.1) (An7 _ _) (hn.mono fun z h hzl=>(⟨hzl,h.2.1,h.2.2⟩:z<w9.heap.size∧z≠b2∧(F z∨w.heap.size≤z)))) ?_;rintro _ w9 ⟨hx9,cs4,rfl,hn4⟩;have hB2:=hB2.u hx9;have hn4:=hn4.mono (F':=fun x=>x≠b2∧True∧(F x∨w.heap.size≤x)) (fun z h hzl=>by rcases h with h|h;exact ⟨h.2.1,trivial,h.2.2⟩;exact ⟨by omega,trivial,.inr (by omega)⟩);have hone4:=hn4.one1;obtain ⟨f0,f1,f2,f3,f4,f5,f6,rfl⟩:=hn4.cells;refine Pb (cs':=[f0,f1,f2,f3,f4,f5,f6]) Al7 J J hB2 J J hone4 J J ?_;intro w10 hs10 hx10 hB2;have hC:=hC.step (hx9.j hx10) (by simp<;>omega);have hn4:=hn4.q hx10 (by simp;done);refine Qc (A6 (D5 J J (A5 M9 ‹_› J J) ?_));exact ⟨hC,_,rfl,hn4.mono fun z h hzl=>by rcases h.2.2 with h|h;exact .inl h;exact .inr ⟨by omega,hzl⟩⟩
 ·try simp at h4
  have h4':lz=false:=by simpa using h4
  subst h4';refine A7 (Qd (La M9 J ‹_› J J ?_));refine C9 J (B1 Ar2 Dc7 J (by rfl)) ?_;refine Ca Cn6 J (Am7 3 q default _ [.int .i64 0,.int .u64 0,.int .u64 0,.int .u64 0,.int .u64 0,.bool false,.slice none 0 0] _ _ (fun z hz=>by rcases hz.2.2 with h|h;have:=hF z h;omega;exact hz.1) (hn.mono fun z h hzl=>(⟨hzl,h.2.1,h.2.2⟩:z<w9.heap.size∧z≠b2∧(F z∨w.heap.size≤z))) (An7 _ _)) ?_;rintro _ w11 ⟨hx11,cs4,rfl,hn4⟩;have hB2:=hB2.u hx11;have hn4:=hn4.mono (F':=fun x=>x≠b2∧True∧(F x∨w.heap.size≤x)) (fun z h hzl=>by rcases h with h|h;exact ⟨h.2.1,trivial,h.2.2⟩;exact ⟨by omega,trivial,.inr (by omega)⟩);have hone4:=hn4.one1;obtain ⟨f0,f1,f2,f3,f4,f5,f6,rfl⟩:=hn4.cells;refine Pb (cs':=[f0,f1,f2,f3,f4,f5,f6]) Al7 J J hB2 J J hone4 J J ?_;intro w12 hs12 hx12 hB2;have hC:=hC.step (hx11.j hx12) (by simp<;>omega);have hn4:=hn4.q hx12 (by simp;done);refine Qc (A6 (D5 J J (A5 M9 ‹_› J J) ?_));exact ⟨hC,_,rfl,hn4.mono fun z h hzl=>by rcases h.2.2 with h|h;exact .inl h;exact .inr ⟨by omega,hzl⟩⟩
theorem Cj1 (r:R8) (lz:Bool):∀ m,m≤1000000→Da1 r lz m
 |0,h=>Bo3 r lz 0 h fun k hk=>by omega
 |m+1,h=>Bo3 r lz (m+1) h fun k hk=>by cases hk;exact Cj1 r lz m (by omega)
def Dj4 (t:R6):Prop:=∀ (cs:List Value) (F:Nat→Prop) (w:World),(∀ x,F x→x<w.heap.size)→N6 F w t cs→Calls P 91 #[.agg cs.toArray] w (Ret fun u w'=>Chg [] w w'∧∃ cs',u= .agg cs'.toArray∧N8 (FR w.heap.size w'.heap.size []) w' (As1 t) cs')
theorem Cy3 (l:List R6) (i:Nat) (h:i<l.length):S3 (l.take (i+1))=S3 (l.take i)++[As1 (l.getD i default)]:=by
 induction l generalizing i with
 |nil=>simp at h
 |cons t r ih=>
  cases i with
  |zero=>simp [S3]
  |succ i=>
   have:=ih i (by simpa using h);simp only [Ep3,S3,El9,this,Ek7]
theorem N8r.rep {F:Nat→Prop} {w:World} {t:R8} {cs:List Value} (h:N8 F w t cs):∀ n,N8r F w (List.replicate n t) (List.replicate n cs)
 |0=>by rw [List.replicate_zero,List.replicate_zero,N8r]
 |n+1=>by
  rw [Es5,Es5,N8r];exact ⟨cs,_,rfl,h,N8r.rep h n⟩
theorem Dc3 (k:Int) (l:List R8) (n:Nat) (hn:l.length=n) (css:List (List Value)) (A:Option Addr) (c:Nat) (F:Nat→Prop) (w:World) (hc:n≤c) (hm:n≤1000000) (hF:∀ x,F x→x<w.heap.size) (hr:Rd F w 7 A n (List.flatten css)) (hI:N8r F w l css):Calls P 122 #[.int .i64 k,.slice A n c] w (Ret fun u w'=>Chg [] w w'∧∃ cs,u= .agg cs.toArray∧N8 (fun x=>F x∨(w.heap.size≤x∧x<w'.heap.size)) w' (S5 k l) cs):=by
 subst hn;exact Bz5 k l css A c F w hc hm hF hr hI
theorem N8r.one {F:Nat→Prop} {w:World} {l:List R8} {css:List (List Value)} (h:N8r F w l css) (hl:l.length=1):∃ n cs,l=[n]∧css=[cs]∧N8 F w n cs:=by
 match l,hl with
 |[n],_=>
  rw [N8r] at h;obtain ⟨cs,rest,rfl,h2,h3⟩:=h;rw [N8r] at h3;subst h3;exact ⟨n,cs,rfl,rfl,h2⟩
theorem Eg2 (k:Int) (s:Nat) (mn mx:Int) (lz:Bool) (l:List R6) (fr tl:Int) (hk:K6 k mn mx l.length) (hc:∀ i,i<l.length→Dj4 (l.getD i default)):Dj4 (.node k s mn mx lz l fr tl):=by
 intro cs F w hF hN;have hC:=A8 [] w;have hl2:l.length≤200000:=by rcases hk with h|h|h|h|h<;>omega
 rw [N6] at hN;obtain ⟨A,c,css,rfl,hr,hI⟩:=hN;rw [As1];refine D4 Tryz.func91 J J (Qd (B5 J (E1 J J) ?_));intro b1 w1 hb1 hs1 hx1 hB1;refine B5 J (B8 Ar2 J) ?_;intro b2 w2 hb2 hs2 hx2 hB2;have hC:=hC.s0 (hx1.s0 hx2);have hr:=hr.u (hx1.s0 hx2);have hI:=hI.u (hx1.s0 hx2);have hB1:=hB1.u hx2
 refine Qc (Qd (Zc 1 J (Qa (Qd (Zc 1 J (B2 (D8 (σ:=Nat × List (List Value) × Option Addr × Nat) (fun (i,os,A',c')=>[(1,.pointer (some ⟨b1,0,none⟩)),(2,.pointer (some ⟨b2,0,none⟩)),(3,.slice A' i c'),(4,.int .i64 (i:Nat))]) (fun (i,os,A',c') wr=>Chg [] w wr∧Rd F wr 11 A l.length (List.flatten css)∧N6r F wr l css∧Blk wr b1 (n6C k s mn mx lz A l.length c fr tl) 140∧Blk wr b2 [.int .i64 0,.int .u64 0,.int .u64 0,.int .u64 0,.int .u64 0,.bool false,.slice none 0 0] 73∧Own wr (b2+1) 73 7 A' i c' (List.flatten os)∧N8r (FR (b2+1) wr.heap.size (F7 A')) wr (S3 (l.take i)) os∧i≤l.length) (fun (i,os,A',c') wr=>l.length - i) (0,[],none,0) (sb J) ?_ ?_)))))))
 ·exact ⟨hC,hr,hI,hB1,hB2,Own.nil _ _ _ _,by rw [Es0,S3,N8r],El0 _⟩
 rintro ⟨i,os,A',c'⟩ w9 ⟨hC,hr,hI,hB1,hB2,hO,hJ,hi⟩;have hOb:=hO.blk;have hlb2:=hB2.lt;refine Qa (Qd (Z 1 J (Fa Bb9 J (Lb o138 J ‹_› (by rfl) ?_))))
 refine Ln Tryz.underlying138 J (Zc 1 J (A4 J (fun h1=>?_) (fun h1=>?_)))
 ·try simp at h1
  have hin:i<l.length:=by omega
  have hIi:=hI.get i hin;have hlen:=hIi.len;obtain ⟨gA,off,rfl,hFg,hlt,hcell⟩:=hr.at_ (by omega);refine A7 (Qa (B2 (Qb (Z 1 J (Fa Bb9 J (Lb o138 J ‹_› (by rfl) ?_))))));refine Z 1 J (C9 J (C2 Aw4 J J (by omega) (by omega)) (C9 J (E8 (vs:=css.getD i []) Ap5 J (F4 _) (fun j v hj=>by rw [Em3];exact hcell (i*11+j) v (hI.row i hin j v hj)) hlen) ?_));refine Ca fb91 J (hc i hin (css.getD i []) F _ (fun z hz=>by have:=hF z hz;omega) hIi) ?_;rintro _ w3 ⟨hx3,cs1,rfl,hm⟩;have hz3:=hx3.size;have hone:=hm.one1;generalize hme:As1 (l.getD i default)=m at*;obtain ⟨a0,a1,a2,a3,a4,a5,a6,rfl⟩:=hm.cells;refine B5 J (B7 Am0 Tryz.underlying71 Ar2 J J J (by rfl)) ?_;intro b4 w4 hb4 hs4 hx4 hB4;have hC:=hC.s0 (hx3.s0 hx4);have hr:=hr.u (hx3.s0 hx4);have hI:=hI.u (hx3.s0 hx4);have hB1:=hB1.u (hx3.s0 hx4);have hB2:=hB2.u (hx3.s0 hx4);have hO:=hO.u (hx3.s0 hx4);have hJ:=hJ.u (hx3.s0 hx4);have hm:=hm.u hx4;refine G1 J el71 J J hO (Blk.rd (F:=fun _=>True) ‹_› J trivial) ‹_› (by omega) (by omega) ?_;intro A2' c2' w5 hO5 hx5 hA2';have hC:=hC.step hx5 (by intro x h;have:=hOb x h;exact .inr (by omega));have hr:=hr.q hx5 (by intro x hx hf;have:=hOb x hx;have:=hF x hf;omega);have hI:=hI.q hx5 (by intro x hx hf;have:=hOb x hx;have:=hF x hf;omega);have hB1:=hB1.q hx5 (by intro h;have:=hOb _ h;omega);have hB2:=hB2.q hx5 (by intro h;have:=hOb _ h;omega);have hJ:=hJ.q hx5 (by intro x hx hf;exact hf.2.2 hx);have hm:=hm.q hx5 (by intro x hx hf;have:=hOb x hx;have h1:=hf.1;have h2:=hf.2.1;omega)
  replace hO:=hO5
  refine Zc 1 J (Qb (Z 1 J (Ad J J (by omega) (Zc 1 J ⟨(i+1,os++[[a0,a1,a2,a3,a4,a5,a6]],A2',c2'),sb J,?_,?_⟩))));refine ⟨hC,hr,hI,hB1,hB2,by rw [Es6];exact hO,?_,hin⟩;rw [Cy3 l i hin,hme];exact N8r.snoc (hJ.mono fun z hz hzl=>⟨hz.1,hzl,X1 hA2' hz.2.2 (by have:=hz.2.1;omega)⟩) (hm.mono fun z hz hzl=>⟨by have:=hz.1;omega,hzl,X1 hA2' (fun h=>by have:=hOb z h;have:=hz.1;omega) (by have:=hz.2.1;omega)⟩);show l.length - (i+1)<l.length - i;omega
 ·try simp at h1
  have hii:i=l.length:=by omega
  subst hii;rw [Eo6] at hJ;have hol:(S3 l).length=l.length:=Ab6 l;have hcap:=hO.cap;generalize S3 l=o at*;refine Xb (Qa (Qd (Fa Cx2 J (Lb o3 J ‹_› (by rfl) ?_))))
  refine Qc (B2 (Qd (Zc 2 J (A4 J (fun q0=>?_) (fun q0=>?_)))))
  ·try simp at q0
   have hK:Ah0 k s mn mx lz o=default:=by unfold Ah0;rw [Ek1 q0]
   rw [hK];refine Qd (C9 J (B1 Ar2 Dc7 J (by rfl)) ?_);refine Pe Al7 J ‹_› J J ?_;intro w6 hs6 hx6 hB2;have hC:=hC.step hx6 (by simp;omega);refine Qc (A6 (D5 J J (A5 M9 ‹_› J J) ?_));exact ⟨hC,_,rfl,An7 _ _⟩
  ·try simp at q0
   refine Qd (Zc 2 J (A4 J (fun q1=>?_) (fun q1=>?_)))
   ·try simp at q1
    have hK:Ah0 k s mn mx lz o= .node 1 s false []:=by unfold Ah0;rw [Ek0 q0,Ek1 q1]
    rw [hK];refine Qd (Fa fl140_1 J (La J0 J ‹_› (by rfl) J ?_));refine C9 J (B1 Ar2 Dc7 J (by rfl)) ?_;refine Pe Al7 J ‹_› J J ?_;intro w7 hs7 hx7 hB2;have hC:=hC.step hx7 (by simp;omega);refine Qc (A6 (D5 J J (A5 M9 ‹_› J J) ?_));exact ⟨hC,_,rfl,Cu5 1 s false⟩
   ·try simp at q1
    refine Qa (Qd (Zc 2 J (A4 J (fun q2=>?_) (fun q2=>?_))))
    ·refine A7 (E3 (H3 J q2) ?_);rw [cmpB_eql] at q2;have hK:Ah0 k s mn mx lz o=o.getD 0 default:=by unfold Ah0;rw [Ek0 q0,Ek0 q1,Ek1 (.inl q2)]
     rw [hK];have hl1:l.length=1:=by rcases hk with h|h|h|h|h<;>omega
     obtain ⟨a,ca,rfl,rfl,ha⟩:=hJ.one (by omega);have hone:=ha.one1;obtain ⟨a0,a1,a2,a3,a4,a5,a6,rfl⟩:=ha.cells;obtain ⟨g9,o9,rfl,_,_,hcell9⟩:=(hO.rd (F:=fun _=>True) (fun _ _ _=>trivial)).at_ (by omega);refine Qd (Z 1 J (C9 J (C2 Am0 J J (by omega) (by omega)) (C9 J (E8 (vs:=[a0,a1,a2,a3,a4,a5,a6]) M9 J (F4 _) (fun j v hj=>hcell9 j v (by simpa using hj)) J) ?_)));refine Pb (cs':=[a0,a1,a2,a3,a4,a5,a6]) Al7 J J hB2 J J hone J J ?_;intro w8 hs8 hx8 hB2;have hC:=hC.step hx8 (by simp;omega);have ha:=ha.q hx8 (by intro x hx hf;have hx:=Ek3.1 hx;have h1:=hf.1;have h2:=hf.2.1;omega);refine Qc (A6 (D5 J J (A5 M9 ‹_› J J) ?_));exact ⟨hC,_,rfl,ha.mono fun z h hzl=>⟨by have:=h.1;omega,hzl,by simp⟩⟩
    ·refine Qb (Zc 2 J (A4 J (fun q3=>?_) (fun q3=>?_)))
     ·rw [cmpB_eqlF] at q2;rw [cmpB_eql] at q3;have hK:Ah0 k s mn mx lz o=o.getD 0 default:=by unfold Ah0;rw [Ek0 q0,Ek0 q1,Ek1 (.inr q3)]
      rw [hK];have hl1:l.length=1:=by rcases hk with h|h|h|h|h<;>omega
      obtain ⟨a,ca,rfl,rfl,ha⟩:=hJ.one (by omega);have hone:=ha.one1;obtain ⟨a0,a1,a2,a3,a4,a5,a6,rfl⟩:=ha.cells;obtain ⟨g9,o9,rfl,_,_,hcell9⟩:=(hO.rd (F:=fun _=>True) (fun _ _ _=>trivial)).at_ (by omega);refine Qd (Z 1 J (C9 J (C2 Am0 J J (by omega) (by omega)) (C9 J (E8 (vs:=[a0,a1,a2,a3,a4,a5,a6]) M9 J (F4 _) (fun j v hj=>hcell9 j v (by simpa using hj)) J) ?_)));refine Pb (cs':=[a0,a1,a2,a3,a4,a5,a6]) Al7 J J hB2 J J hone J J ?_;intro w9 hs9 hx9 hB2;have hC:=hC.step hx9 (by simp;omega);have ha:=ha.q hx9 (by intro x hx hf;have hx:=Ek3.1 hx;have h1:=hf.1;have h2:=hf.2.1;omega);refine Qc (A6 (D5 J J (A5 M9 ‹_› J J) ?_));exact ⟨hC,_,rfl,ha.mono fun z h hzl=>⟨by have:=h.1;omega,hzl,by simp⟩⟩
     ·rw [cmpB_eqlF] at q2 q3
      refine Qd (Zc 2 J (A4 J (fun q4=>?_) (fun q4=>?_)))
      ·try simp at q4
       have hK:Ah0 k s mn mx lz o=S5 2 o:=by unfold Ah0;rw [Ek0 q0,Ek0 q1,Ek0 (Eu0.2 ⟨q2,q3⟩),Ek1 q4]
       rw [hK];refine Qd (Z 1 J (Ca fb122 J (Dc3 2 o l.length hol os A' c' (FR (b2+1) w9.heap.size []) _ hcap (by omega) (fun z hz=>by have:=hz.2.1;omega) (hO.rd fun z h1 h2=>⟨h1,h2,by simp⟩) (hJ.mono fun z hz hzl=>⟨hz.1,hzl,by simp⟩)) ?_));rintro _ w10 ⟨hx10,cs4,rfl,hn4⟩;have hB2:=hB2.u hx10;have hn4:=hn4.mono (F':=fun x=>x≠b2∧True∧w.heap.size≤x) (fun z h hzl=>by rcases h with h|h;exact ⟨by have:=h.1;omega,trivial,by have:=h.1;omega⟩;exact ⟨by omega,trivial,by omega⟩);have hone4:=hn4.one1;obtain ⟨f0,f1,f2,f3,f4,f5,f6,rfl⟩:=hn4.cells;refine Pb (cs':=[f0,f1,f2,f3,f4,f5,f6]) Al7 J J hB2 J J hone4 J J ?_;intro w11 hs11 hx11 hB2;have hC:=hC.step (hx10.j hx11) (by simp<;>omega);have hn4:=hn4.q hx11 (by simp;done);refine Qc (A6 (D5 J J (A5 M9 ‹_› J J) ?_));exact ⟨hC,_,rfl,hn4.mono fun z h hzl=>⟨h.2.2,hzl,by simp⟩⟩
      ·try simp at q4
       refine Qd (Zc 2 J (A4 J (fun q5=>?_) (fun q5=>?_)))
       ·try simp at q5
        have hK:Ah0 k s mn mx lz o=S5 3 o:=by unfold Ah0;rw [Ek0 q0,Ek0 q1,Ek0 (Eu0.2 ⟨q2,q3⟩),Ek0 q4,Ek1 q5]
        rw [hK];refine Qd (Z 1 J (Ca fb122 J (Dc3 3 o l.length hol os A' c' (FR (b2+1) w9.heap.size []) _ hcap (by omega) (fun z hz=>by have:=hz.2.1;omega) (hO.rd fun z h1 h2=>⟨h1,h2,by simp⟩) (hJ.mono fun z hz hzl=>⟨hz.1,hzl,by simp⟩)) ?_));rintro _ w12 ⟨hx12,cs4,rfl,hn4⟩;have hB2:=hB2.u hx12;have hn4:=hn4.mono (F':=fun x=>x≠b2∧True∧w.heap.size≤x) (fun z h hzl=>by rcases h with h|h;exact ⟨by have:=h.1;omega,trivial,by have:=h.1;omega⟩;exact ⟨by omega,trivial,by omega⟩);have hone4:=hn4.one1;obtain ⟨f0,f1,f2,f3,f4,f5,f6,rfl⟩:=hn4.cells;refine Pb (cs':=[f0,f1,f2,f3,f4,f5,f6]) Al7 J J hB2 J J hone4 J J ?_;intro w13 hs13 hx13 hB2;have hC:=hC.step (hx12.j hx13) (by simp<;>omega);have hn4:=hn4.q hx13 (by simp;done);refine Qc (A6 (D5 J J (A5 M9 ‹_› J J) ?_));exact ⟨hC,_,rfl,hn4.mono fun z h hzl=>⟨h.2.2,hzl,by simp⟩⟩
       ·try simp at q5
        have hl1:l.length=1:=by rcases hk with h|h|h|h|h<;>omega
        have hmn:0≤mn∧mn≤1000∧ -1≤mx∧mx≤1000:=by rcases hk with h|h|h|h|h<;>omega
        have hK:Ah0 k s mn mx lz o=S5 2 (List.replicate mn.toNat (o.getD 0 default)++Bh7 mn mx lz o):=by unfold Ah0;rw [Ek0 q0,Ek0 q1,Ek0 (Eu0.2 ⟨q2,q3⟩),Ek0 q4,Ek0 q5]
        rw [hK];obtain ⟨a,ca,rfl,rfl,ha⟩:=hJ.one (by omega);have hone:=ha.one1;obtain ⟨a0,a1,a2,a3,a4,a5,a6,rfl⟩:=ha.cells;clear hOb;have hq:=ha.mono (F':=FR (b2+1) w9.heap.size []) (fun z hz hzl=>⟨hz.1,hzl,by simp⟩);have hrd:=hO.rd (F:=FR (b2+1) w9.heap.size []) (fun z h1 h2=>⟨h1,h2,by simp⟩);rw [hl1] at hrd hcap;rw [show ([a]:List R8).getD 0 default=a from rfl]
        refine A7 (Qd (Zc 1 J (Qa (Qd (Zc 1 J (B2 (D8 (σ:=Nat × Option Addr × Nat) (fun (i,A2,c2)=>[(1,.pointer (some ⟨b1,0,none⟩)),(2,.pointer (some ⟨b2,0,none⟩)),(3,.slice A' l.length c'),(5,.slice A2 i c2),(6,.int .i64 (i:Nat))]) (fun (i,A2,c2) wr=>Chg [] w wr∧Blk wr b1 (n6C k s mn mx lz A l.length c fr tl) 140∧Blk wr b2 [.int .i64 0,.int .u64 0,.int .u64 0,.int .u64 0,.int .u64 0,.bool false,.slice none 0 0] 73∧Rd (FR (b2+1) w9.heap.size []) wr 7 A' 1 (List.flatten [[a0,a1,a2,a3,a4,a5,a6]])∧N8 (FR (b2+1) w9.heap.size []) wr a [a0,a1,a2,a3,a4,a5,a6]∧Own wr w9.heap.size 73 7 A2 i c2 (List.flatten (List.replicate i [a0,a1,a2,a3,a4,a5,a6]))∧i≤mn.toNat∧w9.heap.size≤wr.heap.size) (fun (i,A2,c2) wr=>mn.toNat - i) (0,none,0) (sb J) ?_ ?_)))))))
        ·exact ⟨hC,hB1,hB2,hrd,hq,Own.nil _ _ _ _,El0 _,El1 _⟩
        rintro ⟨i,A2,c2⟩ w10 ⟨hC,hB1,hB2,hrd,hq,hO2,hi,hz910⟩;have hOb:=hO2.blk
        try have hlB2:=hB2.lt
        refine Qa (Qd (Z 1 J (Fa Ao9 J (Lb o3 J ‹_› (by rfl) ?_))))
        refine Zc 1 J (A4 J (fun g1=>?_) (fun g1=>?_))
        ·try simp at g1
         obtain ⟨g9,o9,hE9,_,_,hcell9⟩:=hrd.at_ (by omega);subst hE9;refine A7 (Qa (B2 (Qb (Z 2 J (C9 J (C2 Am0 J J (by omega) (by omega)) (C9 J (E8 (vs:=[a0,a1,a2,a3,a4,a5,a6]) M9 J (F4 _) (fun j v hj=>hcell9 j v (by simpa using hj)) J) ?_))))));refine B5 J (B7 Am0 Tryz.underlying71 Ar2 J J J (by rfl)) ?_;intro b14 w14 hb14 hs14 hx14 hB14;have hC:=hC.s0 hx14;have hB1:=hB1.u hx14;have hB2:=hB2.u hx14;have hrd:=hrd.u hx14;have hq:=hq.u hx14;have hO2:=hO2.u hx14;refine G1 J el71 J J hO2 (Blk.rd (F:=fun _=>True) ‹_› J trivial) ‹_› (by omega) (by omega) ?_;intro A3' c3' w15 hO15 hx15 hA3';have hz15:=hx15.size;have hC:=hC.step hx15 (by intro x h;have:=hOb x h;exact .inr (by omega));have hB1:=hB1.q hx15 (by intro h;have:=hOb _ h;omega);have hB2:=hB2.q hx15 (by intro h;have:=hOb _ h;omega);have hrd:=hrd.q hx15 (by intro x hx hf;have:=hOb x hx;have h1:=hf.1;have h2:=hf.2.1;omega);have hq:=hq.q hx15 (by intro x hx hf;have:=hOb x hx;have h1:=hf.1;have h2:=hf.2.1;omega)
         replace hO2:=hO15
         refine Zc 1 J (Qb (Z 1 J (Ad J J (by omega) (Zc 1 J ⟨(i+1,A3',c3'),sb J,?_,?_⟩))));exact ⟨hC,hB1,hB2,hrd,hq,by rw [List.replicate_succ',Es6];exact hO2,by omega,by omega⟩;show mn.toNat - (i+1)<mn.toNat - i;omega
        ·try simp at g1
         have hii:i=mn.toNat:=by omega
         subst hii
         refine Xb (I3 (fun e9 wr=>∃ t2 os2 A3 c3,Sub [(2,.pointer (some ⟨b2,0,none⟩)),(5,.slice A3 t2.length c3)] e9∧Chg [] w wr∧Blk wr b2 [.int .i64 0,.int .u64 0,.int .u64 0,.int .u64 0,.int .u64 0,.bool false,.slice none 0 0] 73∧Own wr w9.heap.size 73 7 A3 t2.length c3 (List.flatten os2)∧N8r (FR (b2+1) wr.heap.size []) wr t2 os2∧t2=List.replicate mn.toNat a++Bh7 mn mx lz [a]∧w9.heap.size≤wr.heap.size) ?_ ?_)
         ·refine Qd (Fa Bc0 J (Lb o3 J ‹_› (by rfl) ?_))
          refine Zc 1 J (A4 J (fun g2=>?_) (fun g2=>?_))
          ·try simp at g2
           refine Qb (Z 1 J (Fa Ed7 J (Lb o4 J ‹_› (by rfl) ?_)));refine Z 1 J (C9 J (B1 Ar2 Dc7 J (by rfl)) ?_);refine B5 J (B7 Am0 Tryz.underlying71 Ar2 J J J (by rfl)) ?_;intro b16 w16 hb16 hs16 hx16 hB16;have hC:=hC.s0 hx16;have hB2:=hB2.u hx16;have hrd:=hrd.u hx16;have hq:=hq.u hx16;have hO2:=hO2.u hx16;refine G1 J el71 J J hO2 (Blk.rd (F:=fun _=>True) ‹_› J trivial) (by rfl) (by omega) (by omega) ?_;intro A3' c3' w17 hO17 hx17 hA3';have hz17:=hx17.size;have hC:=hC.step hx17 (by intro x h;have:=hOb x h;exact .inr (by omega));have hB2:=hB2.q hx17 (by intro h;have:=hOb _ h;omega);have hrd:=hrd.q hx17 (by intro x hx hf;have:=hOb x hx;have h1:=hf.1;have h2:=hf.2.1;omega);have hq:=hq.q hx17 (by intro x hx hf;have:=hOb x hx;have h1:=hf.1;have h2:=hf.2.1;omega)
           replace hO2:=hO17
           refine Zc 1 J ⟨(List.replicate mn.toNat a++[.node 4 0 lz [a]]),(List.replicate mn.toNat [a0,a1,a2,a3,a4,a5,a6]++[n8C 4 0 lz A' 1 c']),A3',c3',⟨rfl,(R0 J (by simp)),trivial⟩,?_⟩;refine ⟨hC,hB2,by rw [Ek5,En5,Es6];unfold n8C;rw [C6,← hl1];exact hO2,N8r.snoc ((N8r.rep hq _).mono fun z hz hzl=>⟨hz.1,hzl,by simp⟩) (n8_node 4 0 lz (hrd.mono fun z hz hzl=>⟨hz.1,hzl,by simp⟩) ?_),by unfold Bh7;rw [Ek1 g2],by omega⟩;rw [N8r];exact ⟨_,[],rfl,hq.mono fun z hz hzl=>⟨hz.1,hzl,by simp⟩,by rw [N8r]⟩
          ·try simp at g2
           refine Qd (Fa Bc0 J (Lb o3 J ‹_› (by rfl) ?_));refine Fa Ao9 J (Lb o3 J ‹_› (by rfl) ?_)
           refine Zc 1 J (A4 J (fun g3=>?_) (fun g3=>?_))
           ·try simp at g3
            refine C8 (S:=[]) 13 [(0,0),(0,1),(0,2),(0,3),(0,4),(0,5),(0,6),(0,7),(0,8),(0,9),(0,10),(1,11),(1,12),(2,13),(2,14)] mo (by kernel_rfl) ?_;intro w18 hx18 hh18;have hB1:=hB1.u hx18;have hrd:=hrd.u hx18;have hq:=hq.u hx18;have hCS18:=A8 ([]) w18;obtain ⟨g9,o9,hE9,_,hlt9,hcell9⟩:=hrd.at_ (by omega);subst hE9;refine Z 2 J (D6 J (C2 Am0 J J (by omega) (by omega)) (D6 J (J5 (vs:=[a0,a1,a2,a3,a4,a5,a6]) M9 J ⟨hlt9,fun j v hj=>hcell9 j v (by simpa using hj)⟩ (by simp;done) J) ?_));refine Fa Bc0 J (D6 J (B3 o3 J ‹_› (by simp;done) (by rfl)) ?_);refine Fa Ao9 J (D6 J (B3 o3 J ‹_› (by simp;done) (by rfl)) ?_);refine Su J J (by omega) (Fa Ed7 J (D6 J (B3 o4 J ‹_› (by simp;done) (by rfl)) ?_));refine C5 J (C3 fb123 J) (Cj1 a lz ((mx - mn).toNat - 1) (by omega) _ (FR (b2+1) w9.heap.size []) _ _ (by omega) (fun z hz=>by have:=hz.2.1;omega) hq) ?_;rintro _ w19 ⟨hx19,cs4,rfl,hn4⟩;have hz19:=hx19.size;have hCS18:=hCS18.s0 hx19;refine ⟨hCS18,?_⟩;have hone4:=hn4.one1;generalize hce:U2 a lz ((mx - mn).toNat - 1)=q at*;obtain ⟨f0,f1,f2,f3,f4,f5,f6,rfl⟩:=hn4.cells;have hn4:=hn4.mono (F':=fun z=>z∉F7 A2∧b2+1≤z) (fun z h hzl=>by rcases h with h|h;exact ⟨fun hm=>by have:=hOb z hm;have:=h.2.1;omega,h.1⟩;exact ⟨fun hm=>by have:=hOb z hm;omega,by omega⟩);have hNb:∀ z∈F7 A2,¬ (z∉F7 A2∧b2+1≤z):=fun z h1 h2=>h2.1 h1
            refine E2 J (B7 Am0 Tryz.underlying71 Ar2 J J J (by rfl)) ?_;intro b20 w20 hb20 hs20 hx20 hB20;have hC:=hC.s0 ((hx18.s0 hx19).s0 hx20);have hB2:=hB2.u ((hx18.s0 hx19).s0 hx20);have hq:=hq.u (hx19.s0 hx20);have hO2:=hO2.u ((hx18.s0 hx19).s0 hx20);have hCS18:=hCS18.s0 hx20;have hn4:=hn4.u hx20;refine ⟨hCS18,?_⟩;refine G1 J el71 J J hO2 (Blk.rd (F:=fun _=>True) ‹_› J trivial) ‹_› (by omega) (by omega) ?_;intro A3' c3' w21 hO21 hx21 hA3';have hz21:=hx21.size;have hC:=hC.step hx21 (by intro x h;have:=hOb x h;exact .inr (by omega));have hB2:=hB2.q hx21 (by intro h;have:=hOb _ h;omega);have hq:=hq.q hx21 (by intro x hx hf;have:=hOb x hx;have h1:=hf.1;have h2:=hf.2.1;omega);have hn4:=hn4.q hx21 ‹_›
            replace hO2:=hO21
            refine Zc 1 J ⟨(List.replicate mn.toNat a++[q]),(List.replicate mn.toNat [a0,a1,a2,a3,a4,a5,a6]++[[f0,f1,f2,f3,f4,f5,f6]]),A3',c3',⟨rfl,(R0 J (by simp)),trivial⟩,?_⟩;refine ⟨hC,hB2,by rw [Ek5,En5,Es6];exact hO2,N8r.snoc ((N8r.rep hq _).mono fun z hz hzl=>⟨hz.1,hzl,by simp⟩) (hn4.mono fun z hz hzl=>⟨hz.2,hzl,by simp⟩),by unfold Bh7;rw [Ek0 g2,Ek1 g3];show _=_++[U2 a lz _];rw [hce],by omega⟩
           ·try simp at g3
            refine A7 ⟨(List.replicate mn.toNat a),(List.replicate mn.toNat [a0,a1,a2,a3,a4,a5,a6]),A2,c2,⟨rfl,(R0 J (by simp)),trivial⟩,?_⟩;refine ⟨hC,hB2,by rw [En5];exact hO2,(N8r.rep hq _).mono fun z hz hzl=>⟨hz.1,hzl,by simp⟩,by unfold Bh7;rw [Ek0 g2,Ek0 (by omega),Ep1],by omega⟩
         rintro e9 w20 ⟨t2,os2,A3,c3,hs9,hC,hB2,hO2,hJ2,ht2,hz920⟩;refine I2 _ hs9 ?_;clear hs9 e9;have hcap2:=hO2.cap
         have hl2':t2.length≤1000000:=by
          rw [ht2,Ek5,En5];have:(Bh7 mn mx lz [a]).length≤1:=by unfold Bh7;split;simp;split<;>simp
          omega
         try have hlB2:=hB2.lt
         rw [← ht2];refine Qd (Z 1 J (Ca fb122 J (Bz5 2 t2 os2 A3 c3 (FR (b2+1) w20.heap.size []) _ hcap2 hl2' (fun z hz=>by have:=hz.2.1;omega) (hO2.rd fun z h1 h2=>⟨by omega,h2,by simp⟩) hJ2) ?_));rintro _ w22 ⟨hx22,cs4,rfl,hn4⟩;have hB2:=hB2.u hx22;have hn4:=hn4.mono (F':=fun x=>x≠b2∧True∧w.heap.size≤x) (fun z h hzl=>by rcases h with h|h;exact ⟨by have:=h.1;omega,trivial,by have:=h.1;omega⟩;exact ⟨by omega,trivial,by omega⟩);have hone4:=hn4.one1;obtain ⟨f0,f1,f2,f3,f4,f5,f6,rfl⟩:=hn4.cells;refine Pb (cs':=[f0,f1,f2,f3,f4,f5,f6]) Al7 J J hB2 J J hone4 J J ?_;intro w23 hs23 hx23 hB2;have hC:=hC.step (hx22.j hx23) (by simp<;>omega);have hn4:=hn4.q hx23 (by simp;done);refine Qc (A6 (D5 J J (A5 M9 ‹_› J J) ?_));exact ⟨hC,_,rfl,hn4.mono fun z h hzl=>⟨h.2.2,hzl,by simp⟩⟩
mutual
theorem Eg3:∀ t:R6,G6 t→Dj4 t
 | .node k s mn mx lz l fr tl,h=>by
  rw [G6] at h;exact Eg2 k s mn mx lz l fr tl h.1 (Dh6 l h.2)
theorem Dh6:∀ l:List R6,G6s l→∀ i,i<l.length→Dj4 (l.getD i default)
 |[],_,i,hi=>absurd hi (by simp)
 |t::r,h,0,_=>by rw [G6s] at h;exact Eg3 t h.1
 |t::r,h,i+1,hi=>by rw [G6s] at h;rw [El9];exact Dh6 r h.2 i (by simpa using hi)
end
theorem By8:C4 (2 ^ 256 - 1)=[.int .u64 18446744073709551615,.int .u64 18446744073709551615,.int .u64 18446744073709551615,.int .u64 18446744073709551615]:=by
 rfl
theorem rmode_c (r:R8) (m:Int) (cs:List Value) (F:Nat→Prop) (w:World) (hF:∀ x,F x→x<w.heap.size) (hr:N8 F w r cs):Calls P 90 #[.agg cs.toArray,.int .i64 m] w (Ret fun u w'=>Chg [] w w'∧∃ cs',u= .agg cs'.toArray∧N8 (fun x=>F x∨(w.heap.size≤x∧x<w'.heap.size)) w' (Al0 r m) cs'):=by
 have hC:=A8 [] w;have hone:=hr.one1;obtain ⟨a0,a1,a2,a3,a4,a5,a6,rfl⟩:=hr.cells;refine D4 Tryz.func90 J J (Qd (B5 J (E1 J J) ?_));intro b1 w1 hb1 hs1 hx1 hB1;refine B5 J (B8 Ar2 J) ?_;intro b2 w2 hb2 hs2 hx2 hB2;refine Qc (Qd (C9 J (D7 N0 Av2 J (by rfl)) ?_));refine C9 J (B1 Ar2 Dc7 J (by rfl)) ?_;refine B5 J (B7 Am0 Tryz.underlying71 Ar2 J J J (by rfl)) ?_;intro b3 w3 hb3 hs3 hx3 hB3;refine C9 J (B1 Ar2 Dc7 J (by rfl)) ?_;refine B5 J (B8 Ar2 J) ?_;intro b4 w4 hb4 hs4 hx4 hB4;have hr:=hr.u (((hx1.s0 hx2).s0 hx3).s0 hx4);refine Pe Al7 J ‹_› J J ?_;intro w5 hs5 hx5 hB4;have hC:=hC.step ((((hx1.j hx2).j hx3).j hx4).j hx5) (by simp<;>omega);have hr:=hr.q hx5 (by intro b hb hFb;have:=hF _ hFb;simp at hb;omega);have hB1:=hB1.q (((hx2.j hx3).j hx4).j hx5) (by simp<;>omega);have hB2:=hB2.q ((hx3.j hx4).j hx5) (by simp<;>omega);have hB3:=hB3.q (hx4.j hx5) (by simp<;>omega);refine Qc (Qa (Qd ?_));have hr2:=hr.mono (F':=fun z=>(z≠b2∧True∧(F z∨w.heap.size≤z))) (fun z h hzl=>⟨by have:=hF z h;omega,trivial,.inl h⟩)
 have hrs:N8 (fun z=>(z≠b2∧True∧(F z∨w.heap.size≤z))) w5 Ak7 [.int .i64 4,.int .u64 0,.int .u64 0,.int .u64 0,.int .u64 0,.bool true,.slice (some ⟨b3,0,none⟩) 1 1]:=by
  have h1:N8 (fun _=>False) w5 (.node 1 (2 ^ 256 - 1) false []) (n8C 1 (2 ^ 256 - 1) false none 0 0):=Cu5 _ _ _;unfold n8C at h1;rw [By8] at h1;have h2:=n8_one (F:=fun z=>(z≠b2∧True∧(F z∨w.heap.size≤z))) 4 0 true hB3 ⟨by omega,trivial,.inr (by omega)⟩ h1 (fun z h _=>h.elim);unfold n8C at h2;rw [C6] at h2;exact h2
 refine Zc 1 J (B2 (Qd (Zc 2 J (A4 J (fun m1=>?_) (fun m1=>?_)))))
 ·try simp at m1
  rw [show Al0 r m=Ag6 2 r Ak7 by unfold Al0;rw [Ek1 m1]];have hr2p:=hr2.mono (F':=fun z=>z<w5.heap.size∧(z≠b2∧True∧(F z∨w.heap.size≤z))) (fun z h hzl=>⟨hzl,h⟩);have hrsq:=hrs.mono (F':=fun z=>z<w5.heap.size∧(z≠b2∧True∧(F z∨w.heap.size≤z))) (fun z h hzl=>⟨hzl,h⟩);refine Qd (La M9 J ‹_› J J ?_);refine La M9 J ‹_› J J ?_;refine Ca Cn6 J (Am7 2 r Ak7 [a0,a1,a2,a3,a4,a5,a6] [.int .i64 4,.int .u64 0,.int .u64 0,.int .u64 0,.int .u64 0,.bool true,.slice (some ⟨b3,0,none⟩) 1 1] _ _ (fun z hz=>hz.1) hr2p hrsq) ?_;rintro _ w6 ⟨hx6,chn4,rfl,hn4⟩;have hB2:=hB2.u hx6;have hn4:=hn4.mono (F':=fun z=>(z≠b2∧True∧(F z∨w.heap.size≤z))) (fun z h hzl=>by rcases h with h|h;exact h.2;exact ⟨by omega,trivial,.inr (by omega)⟩);have hone4:=hn4.one1;obtain ⟨f0,f1,f2,f3,f4,f5,f6,rfl⟩:=hn4.cells;refine Pb (cs':=[f0,f1,f2,f3,f4,f5,f6]) Al7 J J hB2 J J hone4 J J ?_;intro w7 hs7 hx7 hB2;have hC:=hC.step (hx6.j hx7) (by simp<;>omega);have hn4:=hn4.q hx7 (by simp;done);refine Qc (A6 (D5 J J (A5 M9 ‹_› J J) ?_));exact ⟨hC,_,rfl,hn4.mono fun z h hzl=>by rcases h.2.2 with h|h;exact .inl h;exact .inr ⟨by omega,hzl⟩⟩
 ·try simp at m1
  refine Qd (Zc 2 J (A4 J (fun m2=>?_) (fun m2=>?_)))
  ·try simp at m2
   rw [show Al0 r m=Ag6 2 Ak7 r by unfold Al0;rw [Ek0 m1,Ek1 m2]];have hrsp:=hrs.mono (F':=fun z=>z<w5.heap.size∧(z≠b2∧True∧(F z∨w.heap.size≤z))) (fun z h hzl=>⟨hzl,h⟩);have hr2q:=hr2.mono (F':=fun z=>z<w5.heap.size∧(z≠b2∧True∧(F z∨w.heap.size≤z))) (fun z h hzl=>⟨hzl,h⟩);refine Qd (La M9 J ‹_› J J ?_);refine La M9 J ‹_› J J ?_;refine Ca Cn6 J (Am7 2 Ak7 r [.int .i64 4,.int .u64 0,.int .u64 0,.int .u64 0,.int .u64 0,.bool true,.slice (some ⟨b3,0,none⟩) 1 1] [a0,a1,a2,a3,a4,a5,a6] _ _ (fun z hz=>hz.1) hrsp hr2q) ?_;rintro _ w8 ⟨hx8,chn4,rfl,hn4⟩;have hB2:=hB2.u hx8;have hn4:=hn4.mono (F':=fun z=>(z≠b2∧True∧(F z∨w.heap.size≤z))) (fun z h hzl=>by rcases h with h|h;exact h.2;exact ⟨by omega,trivial,.inr (by omega)⟩);have hone4:=hn4.one1;obtain ⟨f0,f1,f2,f3,f4,f5,f6,rfl⟩:=hn4.cells;refine Pb (cs':=[f0,f1,f2,f3,f4,f5,f6]) Al7 J J hB2 J J hone4 J J ?_;intro w9 hs9 hx9 hB2;have hC:=hC.step (hx8.j hx9) (by simp<;>omega);have hn4:=hn4.q hx9 (by simp;done);refine Qc (A6 (D5 J J (A5 M9 ‹_› J J) ?_));exact ⟨hC,_,rfl,hn4.mono fun z h hzl=>by rcases h.2.2 with h|h;exact .inl h;exact .inr ⟨by omega,hzl⟩⟩
  ·try simp at m2
   refine Qd (Zc 2 J (A4 J (fun m3=>?_) (fun m3=>?_)))
   ·try simp at m3
    rw [show Al0 r m=Ag6 2 Ak7 (Ag6 2 r Ak7) by unfold Al0;rw [Ek0 m1,Ek0 m2,Ek1 m3]];refine Qa (C8 (S:=[]) 4 [(0,0),(0,1),(0,2),(1,3),(2,4),(2,5)] mo (by kernel_rfl) ?_);intro w10 hx10 hh10;have hB1:=hB1.u hx10;have hB4:=hB4.u hx10;have hr2:=hr2.u hx10;have hrs:=hrs.u hx10;have hCS10:=A8 ([]) w10;have hr2p:=hr2.mono (F':=fun z=>z<w10.heap.size∧(z≠b2∧True∧(F z∨w.heap.size≤z))) (fun z h hzl=>⟨hzl,h⟩);have hrsq:=hrs.mono (F':=fun z=>z<w10.heap.size∧(z≠b2∧True∧(F z∨w.heap.size≤z))) (fun z h hzl=>⟨hzl,h⟩);refine D6 J (C1 M9 J ‹_› (by simp;done) J J) ?_;refine D6 J (C1 M9 J ‹_› (by simp;done) J J) ?_;refine D6 J (C1 M9 J ‹_› (by simp;done) J J) ?_;refine C5 J (C3 Cn6 J) (Am7 2 r Ak7 [a0,a1,a2,a3,a4,a5,a6] [.int .i64 4,.int .u64 0,.int .u64 0,.int .u64 0,.int .u64 0,.bool true,.slice (some ⟨b3,0,none⟩) 1 1] _ _ (fun z hz=>hz.1) hr2p hrsq) ?_;rintro _ w11 ⟨hx11,chn5,rfl,hn5⟩;have hz11:=hx11.size;have hrs:=hrs.u hx11;have hCS10:=hCS10.s0 hx11;refine ⟨hCS10,?_⟩;have hn5:=hn5.mono (F':=fun z=>(z≠b2∧True∧(F z∨w.heap.size≤z))) (fun z h hzl=>by rcases h with h|h;exact h.2;exact ⟨by omega,trivial,.inr (by omega)⟩);have hrsp:=hrs.mono (F':=fun z=>z<w11.heap.size∧(z≠b2∧True∧(F z∨w.heap.size≤z))) (fun z h hzl=>⟨hzl,h⟩);have hn5q:=hn5.mono (F':=fun z=>z<w11.heap.size∧(z≠b2∧True∧(F z∨w.heap.size≤z))) (fun z h hzl=>⟨hzl,h⟩);refine Ca Cn6 J (Am7 2 Ak7 (Ag6 2 r Ak7) [.int .i64 4,.int .u64 0,.int .u64 0,.int .u64 0,.int .u64 0,.bool true,.slice (some ⟨b3,0,none⟩) 1 1] chn5 _ _ (fun z hz=>hz.1) hrsp hn5q) ?_;rintro _ w12 ⟨hx12,chn6,rfl,hn6⟩;have hB2:=hB2.u ((hx10.s0 hx11).s0 hx12);have hn6:=hn6.mono (F':=fun z=>(z≠b2∧True∧(F z∨w.heap.size≤z))) (fun z h hzl=>by rcases h with h|h;exact h.2;exact ⟨by omega,trivial,.inr (by omega)⟩);have hone4:=hn6.one1;obtain ⟨f0,f1,f2,f3,f4,f5,f6,rfl⟩:=hn6.cells;refine Pb (cs':=[f0,f1,f2,f3,f4,f5,f6]) Al7 J J hB2 J J hone4 J J ?_;intro w13 hs13 hx13 hB2;have hC:=hC.step (((hx10.j hx11).j hx12).j hx13) (by simp<;>omega);have hn6:=hn6.q hx13 (by simp;done);refine Qc (A6 (D5 J J (A5 M9 ‹_› J J) ?_));exact ⟨hC,_,rfl,hn6.mono fun z h hzl=>by rcases h.2.2 with h|h;exact .inl h;exact .inr ⟨by omega,hzl⟩⟩
   ·try simp at m3
    rw [show Al0 r m=r by unfold Al0;rw [Ek0 m1,Ek0 m2,Ek0 m3]];refine A7 (Qd (La M9 J ‹_› J J ?_));refine Pb (cs':=[a0,a1,a2,a3,a4,a5,a6]) Al7 J J hB2 J J hone J J ?_;intro w14 hs14 hx14 hB2;have hC:=hC.step hx14 (by simp;omega);have hr2:=hr2.q hx14 (by simp;done);refine Qc (A6 (D5 J J (A5 M9 ‹_› J J) ?_));exact ⟨hC,_,rfl,hr2.mono fun z h hzl=>by rcases h.2.2 with h|h;exact .inl h;exact .inr ⟨by omega,hzl⟩⟩
def Di6 (t:R6):Prop:=∀ (cs:List Value) (F:Nat→Prop) (w:World),(∀ x,F x→x<w.heap.size)→N6 F w t cs→Calls P 89 #[.agg cs.toArray] w (Ret fun u w'=>u= .int .i64 (clp (szR t))∧Chg [] w w')
theorem Dt6 (l:List R6) (i:Nat) (h:i<l.length):Bh8 (l.take (i+1))=Bh8 (l.take i)+szR (l.getD i default):=by
 induction l generalizing i with
 |nil=>simp at h
 |cons t r ih=>
  cases i with
  |zero=>simp [Bh8]
  |succ i=>
   have:=ih i (by simpa using h);simp only [Ep3,Bh8,El9,this];omega
theorem Dv1 (a:Nat):W1 (clp a) 1=clp (a+1):=by unfold W1 clp;omega
theorem Dv0 (a:Nat):W1 (clp a) 2=clp (a+2):=by unfold W1 clp;omega
theorem Ct3 (a:Nat) (n:Int) (h:0≤n):W1 (clp a) n=clp (a+n.toNat):=by unfold W1 clp;omega
theorem Du0 (k:Int) (s:Nat) (mn mx:Int) (lz:Bool) (l:List R6) (fr tl:Int) (hk:K6 k mn mx l.length) (hc:∀ i,i<l.length→Di6 (l.getD i default)):Di6 (.node k s mn mx lz l fr tl):=by
 intro cs F w hF hN;have hC:=A8 [] w;have hl2:l.length≤200000:=by rcases hk with h|h|h|h|h<;>omega
 rw [N6] at hN;obtain ⟨A,c,css,rfl,hr,hI⟩:=hN;refine D4 Tryz.func89 J J (Qd (B5 J (E1 J J) ?_));intro b1 w1 hb1 hs1 hx1 hB1;have hC:=hC.s0 hx1;have hr:=hr.u hx1;have hI:=hI.u hx1;refine Zc 1 J (Qa (Qd (Fa Cx2 J (Lb o3 J ‹_› (by rfl) ?_))))
 refine Zc 1 J (A4 J (fun q0=>?_) (fun q0=>?_))
 ·try simp at q0
  have hE:szR (.node k s mn mx lz l fr tl)=1:=by rw [szR,Ek1 q0]
  exact Qd (Zc 1 J (A6 (B4 J J ⟨J4 (by rw [hE];rfl),hC⟩)))
 ·try simp at q0
  refine A7 (Qd (Zc 1 J (Qa (Qd (Fa Cx2 J (Lb o3 J ‹_› (by rfl) ?_))))))
  refine Zc 1 J (A4 J (fun q6=>?_) (fun q6=>?_))
  ·try simp at q6
   have hl1:l.length=1:=by rcases hk with h|h|h|h|h<;>omega
   have hmn:0≤mn∧mn≤1000∧ -1≤mx∧mx≤1000:=by rcases hk with h|h|h|h|h<;>omega
   have hE:szR (.node k s mn mx lz l fr tl)=(if mn.toNat+(if mx= -1 then 1 else 0)+(if mn<mx then 1 else 0)=0 then 1 else mn.toNat*Bh8 l+(if mx= -1 then Bh8 l+1 else 0)+(if mn<mx then (mx - mn).toNat*(Bh8 l+2)+((mx - mn).toNat - 1) else 0)+(mn.toNat+(if mx= -1 then 1 else 0)+(if mn<mx then 1 else 0) - 1)):=by rw [szR,Ek0 (by omega),Ek1 q6]
   rw [hE]
   have hS0:szR (l.getD 0 default)=Bh8 l:=by
    match l,hl1 with
    |[a],_=>simp [Bh8]
   have hI0:=hI.get 0 (by omega);have hlen:=hI0.len;obtain ⟨gA,off,rfl,hFg,hlt,hcell⟩:=hr.at_ (by omega);refine Qd (Fa Bb9 J (Lb o138 J ‹_› (by rfl) ?_));refine C9 J (C2 Aw4 J J (by omega) (by omega)) (C9 J (E8 (vs:=css.getD 0 []) Ap5 J (F4 _) (fun j v hj=>by have:=hcell (0*11+j) v (hI.row 0 (by omega) j v hj);simpa using this) hlen) ?_);refine Ca fb89 J (hc 0 (by omega) (css.getD 0 []) F _ (fun z hz=>by have:=hF z hz;omega) hI0) ?_;rintro _ w2 ⟨rfl,hx2⟩;have hC:=hC.s0 hx2;have hB1:=hB1.u hx2;rw [hS0];generalize Bh8 l=S at*;refine Zc 1 J (Qd (Fa Ao9 J (Lb o3 J ‹_› (by rfl) ?_)))
   refine Zc 1 J (Qa (Qd (Zc 1 J (B2 (D8 (σ:=Nat) (fun i=>[(1,.pointer (some ⟨b1,0,none⟩)),(3,.int .i64 (clp (i*S))),(4,.int .i64 (clp S)),(5,.int .i64 mn),(6,.int .i64 (i:Nat))]) (fun i wr=>Chg [] w wr∧Blk wr b1 (n6C k s mn mx lz (some ⟨gA,off,none⟩) l.length c fr tl) 140∧i≤mn.toNat) (fun i wr=>mn.toNat - i) 0 ⟨rfl,(G2 J (by rw [Eu9];rfl)),rfl,rfl,rfl,trivial⟩ ?_ ?_)))))
   ·exact ⟨hC,hB1,El0 _⟩
   rintro i w9 ⟨hC,hB1,hi⟩;have hcS:=Az4 S;have hciS:=Az4 (i*S)
   try have hzw:=hC.size
   try have hlB1:=hB1.lt
   refine Qa (Qd (Z 1 J (Fa Ao9 J (Lb o3 J ‹_› (by rfl) ?_))))
   refine Zc 1 J (A4 J (fun g1=>?_) (fun g1=>?_))
   ·try simp at g1
    refine A7 (Qa (B2 (Qb (Z 2 J (Ca Cr9 J (Aa6 (clp (i*S)) (clp S) hciS.2 hcS.2 _) ?_)))));rintro _ _ ⟨rfl,rfl⟩;refine Zc 1 J (Qb (Z 1 J (Ad J J (by omega) (Zc 1 J ⟨i+1,⟨rfl,(G2 J (by rw [Aw6,Es8])),rfl,rfl,rfl,trivial⟩,?_,?_⟩))));exact ⟨hC,hB1,by omega⟩;show mn.toNat - (i+1)<mn.toNat - i;omega
   ·try simp at g1
    have hii:i=mn.toNat:=by omega
    subst hii;generalize hX0:mn.toNat*S=X0 at*
    refine Xb (I3 (fun e9 wr=>Sub [(1,.pointer (some ⟨b1,0,none⟩)),(3,.int .i64 (clp (X0+(if mx= -1 then S+1 else 0)))),(4,.int .i64 (clp S)),(5,.int .i64 (mn+(if mx= -1 then 1 else 0)))] e9∧Chg [] w wr∧Blk wr b1 (n6C k s mn mx lz (some ⟨gA,off,none⟩) l.length c fr tl) 140) ?_ ?_)
    ·refine Qd (Fa Bc0 J (Lb o3 J ‹_› (by rfl) ?_))
     refine Zc 1 J (A4 J (fun g2=>?_) (fun g2=>?_))
     ·try simp at g2
      refine Qd (Z 2 J (Ca Cr9 J (Aa6 (clp S) 1 hcS.2 (by omega) _) ?_));rintro _ _ ⟨rfl,rfl⟩;refine Ca Cr9 J (Aa6 (clp X0) (W1 (clp S) 1) hciS.2 (M8 _ _).2 _) ?_;rintro _ _ ⟨rfl,rfl⟩;refine Zc 1 J (Qb (Z 1 J (Ad J J (by omega) (Zc 1 J ⟨⟨rfl,(G2 J (by rw [Dv1,Aw6,Ek1 g2])),rfl,(G2 J (by rw [Ek1 g2])),trivial⟩,?_⟩))));exact ⟨hC,hB1⟩
     ·try simp at g2
      refine A7 ⟨⟨rfl,(G2 J (by rw [Ek0 g2,Ev1])),rfl,(G2 J (by rw [Ek0 g2,Int.add_zero])),trivial⟩,?_⟩;exact ⟨hC,hB1⟩
    rintro e9 w10 ⟨hs9,hC,hB1⟩;refine I2 _ hs9 ?_;clear hs9 e9;generalize hX:X0+(if mx= -1 then S+1 else 0)=X at*;generalize hp1:(if mx= -1 then (1:Int) else 0)=p1 at*;have hp1b:0≤p1∧p1≤1:=by rw [← hp1];split<;>omega
    refine I3 (fun e9 wr=>Sub [(1,.pointer (some ⟨b1,0,none⟩)),(3,.int .i64 (clp X)),(4,.int .i64 (clp S)),(5,.int .i64 (mn+p1+(if mn<mx then 1 else 0)))] e9∧Chg [] w wr∧Blk wr b1 (n6C k s mn mx lz (some ⟨gA,off,none⟩) l.length c fr tl) 140) ?_ ?_
    ·refine Qd (Fa Bc0 J (Lb o3 J ‹_› (by rfl) ?_));refine Fa Ao9 J (Lb o3 J ‹_› (by rfl) ?_)
     refine Zc 1 J (A4 J (fun g3=>?_) (fun g3=>?_))
     ·try simp at g3
      refine Qb (Z 1 J (Ad J J (by omega) (Zc 1 J ⟨⟨rfl,rfl,rfl,(G2 J (by rw [Ek1 g3])),trivial⟩,?_⟩)));exact ⟨hC,hB1⟩
     ·try simp at g3
      refine A7 ⟨⟨rfl,rfl,rfl,(G2 J (by rw [Ek0 (by omega),Int.add_zero])),trivial⟩,?_⟩;exact ⟨hC,hB1⟩
    rintro e9 w11 ⟨hs9,hC,hB1⟩;refine I2 _ hs9 ?_;clear hs9 e9;generalize hp2:(if mn<mx then (1:Int) else 0)=p2 at*;have hp2b:0≤p2∧p2≤1:=by rw [← hp2];split<;>omega
    refine Qa (Qd (Fa Ao9 J (Lb o3 J ‹_› (by rfl) ?_)))
    refine Zc 1 J (B2 (D8 (σ:=Nat) (fun j=>[(1,.pointer (some ⟨b1,0,none⟩)),(3,.int .i64 (clp (X+(j*(S+2)+(j - 1))))),(4,.int .i64 (clp S)),(5,.int .i64 (mn+p1+p2)),(7,.int .i64 (mn+(j:Nat)))]) (fun j wr=>Chg [] w wr∧Blk wr b1 (n6C k s mn mx lz (some ⟨gA,off,none⟩) l.length c fr tl) 140∧j≤(mx - mn).toNat) (fun j wr=>(mx - mn).toNat - j) 0 ⟨rfl,(G2 J (by rw [Eu9];rfl)),rfl,rfl,(G2 J (by simp)),trivial⟩ ?_ ?_))
    ·exact ⟨hC,hB1,El0 _⟩
    rintro j w12 ⟨hC,hB1,hj⟩;have hcj:=Az4 (X+(j*(S+2)+(j - 1)))
    try have hzw:=hC.size
    try have hlB1:=hB1.lt
    refine Qa (Qd (Z 1 J (Fa Bc0 J (Lb o3 J ‹_› (by rfl) ?_))))
    refine Zc 1 J (A4 J (fun g4=>?_) (fun g4=>?_))
    ·try simp at g4
     refine A7 (Qa (B2 (Qd (Z 2 J (Ca Cr9 J (Aa6 (clp S) 2 hcS.2 (by omega) _) ?_)))));rintro _ _ ⟨rfl,rfl⟩;refine Ca Cr9 J (Aa6 (clp (X+(j*(S+2)+(j - 1)))) (W1 (clp S) 2) hcj.2 (M8 _ _).2 _) ?_;rintro _ _ ⟨rfl,rfl⟩;refine Zc 1 J (Qd (Z 1 J (Fa Ao9 J (Lb o3 J ‹_› (by rfl) ?_))))
     refine Zc 1 J (A4 J (fun g5=>?_) (fun g5=>?_))
     ·try simp at g5
      have hE5:W1 (W1 (clp (X+(j*(S+2)+(j - 1)))) (W1 (clp S) 2)) 1=clp (X+((j+1)*(S+2)+(j+1 - 1))):=by
       rw [Dv0,Aw6,Dv1,Es8]
       congr 1
       omega
      refine Qb (Z 1 J (Ca Cr9 J (Aa6 (W1 (clp (X+(j*(S+2)+(j - 1)))) (W1 (clp S) 2)) 1 (M8 _ _).2 (by omega) _) ?_));rintro _ _ ⟨rfl,rfl⟩;refine Zc 1 J (Qb (Z 1 J (Ad J J (by omega) (Zc 1 J ⟨j+1,⟨rfl,(G2 J hE5),rfl,rfl,(G2 J (by omega)),trivial⟩,?_,?_⟩))));exact ⟨hC,hB1,by omega⟩;show (mx - mn).toNat - (j+1)<(mx - mn).toNat - j;omega
     ·try simp at g5
      have hj0:j=0:=by omega
      subst hj0;refine A7 (Qb (Z 1 J (Ad J J (by omega) (Zc 1 J ⟨1,⟨rfl,(G2 J (by rw [Dv0,Aw6];congr 1;omega)),rfl,rfl,(G2 J (by omega)),trivial⟩,?_,?_⟩))));exact ⟨hC,hB1,by omega⟩;show (mx - mn).toNat - 1<(mx - mn).toNat - 0;omega
    ·try simp at g4
     have hjj:j=(mx - mn).toNat:=by omega
     subst hjj
     refine Xb (Qa (Qd (Zc 2 J (A4 J (fun g6=>?_) (fun g6=>?_)))))
     ·try simp at g6
      refine Qd (Zc 1 J (A6 (B4 J J ⟨J4 ?_,hC⟩)));have e1:(if mx= -1 then 1 else 0)=p1.toNat:=by rw [← hp1];split<;>rfl
      have e2:(if mn<mx then 1 else 0)=p2.toNat:=by rw [← hp2];split<;>rfl
      rw [e1,e2,Ek1 (by omega)]
      rfl
     ·try simp at g6
      refine A7 (Qd (Z 2 J (Su J J (by omega) (Ca Cr9 J (Aa6 (clp (X+((mx - mn).toNat*(S+2)+((mx - mn).toNat - 1)))) (mn+p1+p2 - 1) hcj.2 (by omega) _) ?_))));rintro _ _ ⟨rfl,rfl⟩;refine Zc 1 J (A6 (B4 J J ⟨J4 ?_,hC⟩));rw [Ct3 _ _ (by omega)];have e1:(if mx= -1 then 1 else 0)=p1.toNat:=by rw [← hp1];split<;>rfl
      have e2:(if mn<mx then 1 else 0)=p2.toNat:=by rw [← hp2];split<;>rfl
      rw [e1,e2,Ek0 (by omega)]
      congr 1
      by_cases h7:mn<mx
      ·rw [Ek1 h7];omega
      ·rw [Ek0 h7,show (mx - mn).toNat=0 by omega,Eu9];omega
  ·try simp at q6
   have hE:szR (.node k s mn mx lz l fr tl)=Bh8 l+(l.length - 1):=by rw [szR,Ek0 (by omega),Ek0 q6]
   have hl1:1≤l.length:=by rcases hk with h|h|h|h|h<;>omega
   rw [hE]
   refine A7 (Qa (Qd (Zc 1 J (B2 (D8 (σ:=Nat) (fun i=>[(1,.pointer (some ⟨b1,0,none⟩)),(3,.int .i64 (clp (Bh8 (l.take i)))),(8,.int .i64 (i:Nat))]) (fun i wr=>Chg [] w wr∧Rd F wr 11 A l.length (List.flatten css)∧N6r F wr l css∧Blk wr b1 (n6C k s mn mx lz A l.length c fr tl) 140∧i≤l.length) (fun i wr=>l.length - i) 0 ⟨rfl,(G2 J (by rw [Es0,Bh8];rfl)),rfl,trivial⟩ ?_ ?_)))))
   ·exact ⟨hC,hr,hI,hB1,El0 _⟩
   rintro i w9 ⟨hC,hr,hI,hB1,hi⟩
   try have hzw:=hC.size
   try have hlB1:=hB1.lt
   refine Qa (Qd (Z 1 J (Fa Bb9 J (Lb o138 J ‹_› (by rfl) ?_))))
   refine Ln Tryz.underlying138 J (Zc 1 J (A4 J (fun h1=>?_) (fun h1=>?_)))
   ·try simp at h1
    have hin:i<l.length:=by omega
    have hIi:=hI.get i hin;have hlen:=hIi.len;obtain ⟨gA,off,rfl,hFg,hlt,hcell⟩:=hr.at_ (by omega);refine A7 (Qa (B2 (Qb (Z 1 J (Fa Bb9 J (Lb o138 J ‹_› (by rfl) ?_))))));refine Z 1 J (C9 J (C2 Aw4 J J (by omega) (by omega)) (C9 J (E8 (vs:=css.getD i []) Ap5 J (F4 _) (fun j v hj=>by rw [Em3];exact hcell (i*11+j) v (hI.row i hin j v hj)) hlen) ?_));refine Ca fb89 J (hc i hin (css.getD i []) F _ (fun z hz=>by have:=hF z hz;omega) hIi) ?_;rintro _ w10 ⟨rfl,hx10⟩;have hz10:=hx10.size;have hC:=hC.s0 hx10;have hr:=hr.u hx10;have hI:=hI.u hx10;have hB1:=hB1.u hx10;refine Ca Cr9 J (Aa6 (clp (Bh8 (l.take i))) (clp (szR (l.getD i default))) (Az4 _).2 (Az4 _).2 _) ?_;rintro _ _ ⟨rfl,rfl⟩;refine Zc 1 J (Qb (Z 1 J (Ad J J (by omega) (Zc 1 J ⟨i+1,⟨rfl,(G2 J (by rw [Aw6,Dt6 l i hin])),rfl,trivial⟩,?_,?_⟩))));exact ⟨hC,hr,hI,hB1,hin⟩;show l.length - (i+1)<l.length - i;omega
   ·try simp at h1
    have hii:i=l.length:=by omega
    subst hii;rw [Eo6];refine Xb (Qd (Z 1 J (Fa Bb9 J (Lb o138 J ‹_› (by rfl) ?_))));refine Ln Tryz.underlying138 J (Su J J (by omega) (Ca Cr9 J (Aa6 (clp (Bh8 l)) ((l.length:Int) - 1) (Az4 _).2 (by omega) _) ?_));rintro _ _ ⟨rfl,rfl⟩;refine Zc 1 J (A6 (B4 J J ⟨J4 ?_,hC⟩));rw [Ct3 _ _ (by omega)]
    congr 1
    omega
mutual
theorem Du1:∀ t:R6,G6 t→Di6 t
 | .node k s mn mx lz l fr tl,h=>by
  rw [G6] at h;exact Du0 k s mn mx lz l fr tl h.1 (Db0 l h.2)
theorem Db0:∀ l:List R6,G6s l→∀ i,i<l.length→Di6 (l.getD i default)
 |[],_,i,hi=>absurd hi (by simp)
 |t::r,h,0,_=>by rw [G6s] at h;exact Du1 t h.1
 |t::r,h,i+1,hi=>by rw [G6s] at h;rw [El9];exact Db0 r h.2 i (by simpa using hi)
end
theorem Dv3 (s:ByteArray) (m:Int) (hs:s.size≤1000) (w:World):Calls P 57 #[.string s,.int .i64 m] w (Ret fun u w'=>Chg [] w w'∧∃ cs,u= .tuple #[.agg cs.toArray,.int .i64 (I6 (B6 s) m).2.1,.int .i64 (I6 (B6 s) m).2.2]∧N8 (FR w.heap.size w'.heap.size []) w' (I6 (B6 s) m).1 cs):=by
 have hC:=A8 [] w;have hsl:=E5 s;have hlt:=R5 s;have hP:I6 (B6 s) m=if m<0∨3<m then (default,0,1) else if (M3 (B6 s)).2.2≠0 then (default,(M3 (B6 s)).2) else if 4096<clp (szR (M3 (B6 s)).1+Ak9 m) then (default,0,3) else (Al0 (As1 (M3 (B6 s)).1) m,0,0):=rfl
 have hG:=Am6 (B6 s) hlt (by omega);generalize I6 (B6 s) m=r at*;refine D4 Tryz.func57 J J (Qd (B5 J (B8 Ar2 J) ?_));intro b1 w1 hb1 hs1 hx1 hB1;have hC:=hC.s0 hx1
 refine Zc 2 J (Qa (Qd (Z 3 J (C0 (d:=11) J (fun h1=>?_) (fun h1=>?_)))))
 ·try simp at h1
  rw [Ek1 (.inl (by omega))] at hP;subst hP;refine Qk J (Qk J (Zc 1 J (E3 J (Qd (C9 J (B1 Ar2 Dc7 J (by rfl)) ?_)))));refine Pe Al7 J ‹_› J J ?_;intro w2 hs2 hx2 hB1;have hC:=hC.step hx2 (by simp;omega);refine Zc 2 J (A6 (Q3 J J (A5 M9 ‹_› J J) J J ?_));exact ⟨hC,_,rfl,An7 _ _⟩
 ·try simp at h1
  refine Qu J (Z 1 J (Qu J (Zc 2 J (A4 J (fun h2=>?_) (fun h2=>?_)))))
  ·try simp at h2
   rw [Ek1 (.inr (by omega))] at hP;subst hP;refine Qd (C9 J (B1 Ar2 Dc7 J (by rfl)) ?_);refine Pe Al7 J ‹_› J J ?_;intro w3 hs3 hx3 hB1;have hC:=hC.step hx3 (by simp;omega);refine Zc 2 J (A6 (Q3 J J (A5 M9 ‹_› J J) J J ?_));exact ⟨hC,_,rfl,An7 _ _⟩
  ·try simp at h2
   rw [Ek0 (by omega)] at hP;refine A7 (Qd (Z 1 J (Ca fb88 J (Dv4 s hs _) ?_)));rintro _ w4 ⟨hx4,cs,rfl,hn⟩;have hz4:=hx4.size;generalize M3 (B6 s)=t at*;obtain ⟨t,p,e⟩:=t;simp only [] at hP hG hn;have hone:=hn.one1;obtain ⟨a0,a1,a2,a3,a4,a5,a6,a7,a8,rfl⟩:=hn.cells;refine Z 3 J (B5 J (B8 Ak5 J) ?_);intro b5 w5 hb5 hs5 hx5 hB5;refine B5 J (B8 Bf2 J) ?_;intro b6 w6 hb6 hs6 hx6 hB6;have hn:=hn.u (hx5.s0 hx6);have hB5:=hB5.u hx6;refine Pb (cs':=[a0,a1,a2,a3,a4,a5,a6,a7,a8,.int .i64 t.frm,.int .i64 t.till]) Bf4 J J hB5 J J hone J J ?_;intro w7 hs7 hx7 hB5;have hn:=hn.q hx7 (by intro x hx hf;have hx:=Ek3.1 hx;have h1:=hf.1;have h2:=hf.2.1;omega);have hB6:=hB6.q hx7 (by simp;omega);refine Pe Bh9 J ‹_› J J ?_;intro w8 hs8 hx8 hB6;have hC:=hC.step ((((hx4.j hx5).j hx6).j hx7).j hx8) (by simp<;>omega);have hB1:=hB1.q ((((hx4.j hx5).j hx6).j hx7).j hx8) (by simp<;>omega);have hn:=hn.q hx8 (by intro x hx hf;have hx:=Ek3.1 hx;have h1:=hf.1;have h2:=hf.2.1;omega);have hB5:=hB5.q hx8 (by simp;omega);refine Qc (Qa (Qd (Fa Cx0 J (Lb o3 J ‹_› (by rfl) ?_))))
   refine Zc 1 J (A4 J (fun h3=>?_) (fun h3=>?_))
   ·try simp at h3
    rw [Ek1 h3] at hP;subst hP;refine Qa (C8 (S:=[b1]) 7 [(0,0),(0,1),(0,2),(0,3),(0,4),(1,5),(0,6),(2,7)] mo (by kernel_rfl) ?_);intro w9 hx9 hh9;have hB1:=hB1.u hx9;have hB6:=hB6.u hx9;have hCS9:=A8 ([b1]) w9;refine D6 J (B1 Ar2 Dc7 J (by rfl)) ?_;refine Fa fl142_0 J (D6 J (B3 o3 J ‹_› (by simp;omega) (by rfl)) ?_);refine Fa Cx0 J (D6 J (B3 o3 J ‹_› (by simp;omega) (by rfl)) ?_);refine H8 (G3 Al7 J J ‹_› J J J J J) ?_;intro w10 hs10 hx10 hB1;have hC:=hC.step (hx9.j hx10) (by simp<;>omega);have hCS9:=hCS9.step hx10 (by simp;done);refine ⟨hCS9,?_⟩;refine Zc 2 J (A6 (Q3 J J (A5 M9 ‹_› J J) J J ?_));exact ⟨hC,_,rfl,An7 _ _⟩
   ·try simp at h3
    have h3':e=0:=by simpa using h3
    rw [Ek0 (by simpa using h3')] at hP;have hg:=hG h3'
    have hmore:∀ o:Nat,o=m.toNat→([.int .i64 0,.int .i64 3,.int .i64 3,.int .i64 6]:List Value)[o]?=some (.int .i64 (Ak9 m:Nat)):=by
     rintro o rfl;rcases (show m=0∨m=1∨m=2∨m=3 by omega) with rfl|rfl|rfl|rfl<;>rfl
    have hsz:=Du1 t hg
    have hcm:Aa4 .gtr (W1 (clp (szR t)) ((Ak9 m:Nat):Int)) 4096=decide (4096<clp (szR t+Ak9 m)):=by
     rw [Ct3 _ _ (by omega),El4,cmpB_gtr,El7,Ek9]
    refine A7 (Qa (I3 (fun e9 wr=>Sub [(1,.int .i64 m),(4,.pointer (some ⟨b1,0,none⟩)),(7,.pointer (some ⟨b5,0,none⟩)),(36,.bool (decide (4096<clp (szR t+Ak9 m))))] e9∧Chg [] w wr∧Blk wr b1 [.int .i64 0,.int .u64 0,.int .u64 0,.int .u64 0,.int .u64 0,.bool false,.slice none 0 0] 73∧N6 (FR w1.heap.size w4.heap.size []) wr t [a0,a1,a2,a3,a4,a5,a6,a7,a8,.int .i64 t.frm,.int .i64 t.till]∧Blk wr b5 [a0,a1,a2,a3,a4,a5,a6,a7,a8,.int .i64 t.frm,.int .i64 t.till] 140) ?_ ?_))
    ·refine Bp5 (S:=[]) 6 (.two [(0,0),(0,3)] 1 (.seg [(1,2),(0,4),(1,5),(2,6),(2,7)]) 2 (.two [(0,4)] 1 (.seg [(1,5),(2,6),(2,7)]) 5 (.seg [(1,1),(2,6),(2,7)]))) mo (by kernel_rfl) ?_;simp only [ET];intro w11 hx11 hh11;have hC:=hC.s0 hx11;have hB1:=hB1.u hx11;have hn:=hn.u hx11;have hB5:=hB5.u hx11;have hB6:=hB6.u hx11;have hCS11:=A8 ([]) w11;refine D6 J (C1 Ap5 J ‹_› (by simp;done) J J) ?_
     refine Zc 1 J ⟨?_,?_⟩
     ·refine C5 J (C3 fb89 J) (hsz _ _ _ (fun z hz=>by have:=hz.2.1;omega) hn) ?_;rintro _ w12 ⟨rfl,hx12⟩;have hCS11:=hCS11.s0 hx12;refine ⟨hCS11,?_⟩;refine Qc (E2 J (B7 T8 Tryz.underlying24 zr3 J J J (by rfl)) ?_);intro b13 w13 hb13 hs13 hx13 hB13;have hz13:=hx13.size;have hC:=hC.s0 (hx12.s0 hx13);have hB1:=hB1.u (hx12.s0 hx13);have hn:=hn.u (hx12.s0 hx13);have hB5:=hB5.u (hx12.s0 hx13);have hB6:=hB6.u (hx12.s0 hx13);have hCS11:=hCS11.s0 hx13;refine ⟨hCS11,?_⟩;refine D6 J (B0 T8 J J (by omega) (by omega)) (Cq8 J (Ab9 o3 J (F4 _) (by rw [Blk.cell ‹_›];exact hmore _ (by omega))) ‹_› ?_);refine Ca Cr9 J (Aa6 (clp (szR t)) (Ak9 m:Nat) (Az4 _).2 (by have:Ak9 m≤6:=(by unfold Ak9;split;omega;split<;>omega);omega) _) ?_;rintro _ _ ⟨rfl,rfl⟩;refine Zc 1 J ⟨⟨rfl,rfl,rfl,(H3 J hcm),trivial⟩,?_⟩;exact ⟨hC,hB1,hn,hB5⟩
     ·refine E2 J (B7 T8 Tryz.underlying24 zr3 J J J (by rfl)) ?_;intro b15 w15 hb15 hs15 hx15 hB15;have hC:=hC.s0 hx15;have hB1:=hB1.u hx15;have hn:=hn.u hx15;have hB5:=hB5.u hx15;have hB6:=hB6.u hx15;have hCS11:=hCS11.s0 hx15;refine ⟨hCS11,?_⟩
      refine Qc (D6 J (B0 T8 J J (by omega) (by omega)) (Qc ⟨?_,?_⟩))
      ·refine C5 J (C3 fb89 J) (hsz _ _ _ (fun z hz=>by have:=hz.2.1;omega) hn) ?_;rintro _ w16 ⟨rfl,hx16⟩;have hz16:=hx16.size;have hC:=hC.s0 hx16;have hB1:=hB1.u hx16;have hn:=hn.u hx16;have hB5:=hB5.u hx16;have hB6:=hB6.u hx16;have hCS11:=hCS11.s0 hx16;have hB15:=hB15.u hx16;refine ⟨hCS11,?_⟩;refine Qc (Cq8 J (Ab9 o3 J (F4 _) (by rw [Blk.cell ‹_›];exact hmore _ (by omega))) ‹_› ?_);refine Ca Cr9 J (Aa6 (clp (szR t)) (Ak9 m:Nat) (Az4 _).2 (by have:Ak9 m≤6:=(by unfold Ak9;split;omega;split<;>omega);omega) _) ?_;rintro _ _ ⟨rfl,rfl⟩;refine Zc 1 J ⟨⟨rfl,rfl,rfl,(H3 J hcm),trivial⟩,?_⟩;exact ⟨hC,hB1,hn,hB5⟩
      ·refine Cq8 J (Ab9 o3 J (F4 _) (by rw [Blk.cell ‹_›];exact hmore _ (by omega))) ‹_› ?_;refine Qc (C5 J (C3 fb89 J) (hsz _ _ _ (fun z hz=>by have:=hz.2.1;omega) hn) ?_);rintro _ w18 ⟨rfl,hx18⟩;have hz18:=hx18.size;have hC:=hC.s0 hx18;have hB1:=hB1.u hx18;have hn:=hn.u hx18;have hB5:=hB5.u hx18;have hB6:=hB6.u hx18;have hCS11:=hCS11.s0 hx18;have hB15:=hB15.u hx18;refine ⟨hCS11,?_⟩;refine Ca Cr9 J (Aa6 (clp (szR t)) (Ak9 m:Nat) (Az4 _).2 (by have:Ak9 m≤6:=(by unfold Ak9;split;omega;split<;>omega);omega) _) ?_;rintro _ _ ⟨rfl,rfl⟩;refine Zc 1 J ⟨⟨rfl,rfl,rfl,(H3 J hcm),trivial⟩,?_⟩;exact ⟨hC,hB1,hn,hB5⟩
    rintro e9 w20 ⟨hs9,hC,hB1,hn,hB5⟩;refine I2 _ hs9 ?_;clear hs9 e9
    try have hlB5:=hB5.lt
    refine A4 J (fun h5=>?_) (fun h5=>?_)
    ·try simp at h5
     have h5':4096<clp (szR t+Ak9 m):=by simpa using h5
     rw [Ek1 h5'] at hP;subst hP;refine Qd (C9 J (B1 Ar2 Dc7 J (by rfl)) ?_);refine Pe Al7 J ‹_› J J ?_;intro w20 hs20 hx20 hB1;have hC:=hC.step hx20 (by simp;omega);refine Zc 2 J (A6 (Q3 J J (A5 M9 ‹_› J J) J J ?_));exact ⟨hC,_,rfl,An7 _ _⟩
    ·try simp at h5
     have h5':¬ 4096<clp (szR t+Ak9 m):=by simpa using h5
     rw [Ek0 h5'] at hP;subst hP;refine A7 (Qd (La Ap5 J ‹_› J J ?_));refine Ca fb91 J (Eg3 t hg _ _ _ (fun z hz=>by have:=hz.2.1;omega) hn) ?_;rintro _ w21 ⟨hx21,cs1,rfl,hn1⟩;have hz21:=hx21.size;refine Z 1 J (Ca fb90 J (rmode_c (As1 t) m cs1 _ _ (fun z hz=>hz.2.1) hn1) ?_);rintro _ w22 ⟨hx22,cs2,rfl,hn2⟩;have hB1:=hB1.u (hx21.s0 hx22);have hn2:=hn2.mono (F':=FR (b1+1) w22.heap.size []) (fun z h hzl=>by rcases h with h|h;exact ⟨by have:=h.1;omega,hzl,by simp⟩;exact ⟨by omega,hzl,by simp⟩);have hone2:=hn2.one1;obtain ⟨f0,f1,f2,f3,f4,f5,f6,rfl⟩:=hn2.cells;refine Pb (cs':=[f0,f1,f2,f3,f4,f5,f6]) Al7 J J hB1 J J hone2 J J ?_;intro w23 hs23 hx23 hB1;have hC:=hC.step ((hx21.j hx22).j hx23) (by simp<;>omega);have hn2:=hn2.q hx23 (by intro x hx hf;have hx:=Ek3.1 hx;have h1:=hf.1;have h2:=hf.2.1;omega);refine Zc 2 J (A6 (Q3 J J (A5 M9 ‹_› J J) J J ?_));exact ⟨hC,_,rfl,hn2.mono fun z h hzl=>⟨by have:=h.1;omega,hzl,by simp⟩⟩
mutual
def B9:R8→Nat
 | .node k _ _ l=>if k=1 then 1 else H6 l
def H6:List R8→Nat
 |[]=>0
 |t::r=>B9 t+H6 r
end
def Ch6 (k:Int) (vs:List Int):Int:=if k=0∨k=4 then 1 else if k=2 then Ac2 (vs.getD 0 0) (vs.getD 1 0) else if k=3 then W1 (vs.getD 0 0) (vs.getD 1 0) else 0
mutual
def O1:R8→Int
 | .node k _ _ l=>Ch6 k (Ac0 l)
def Ac0:List R8→List Int
 |[]=>[]
 |t::r=>O1 t::Ac0 r
end
mutual
def P7:R8→List Nat
 | .node k s _ l=>(if k=1 then [s] else [])++L5 l
def L5:List R8→List Nat
 |[]=>[]
 |t::r=>P7 t++L5 r
end
mutual
def Bl1:R8→Bool
 | .node k _ _ l=>(decide (k=4) && decide (300<(Ac0 l).getD 0 0))||Aa1 l
def Aa1:List R8→Bool
 |[]=>false
 |t::r=>Bl1 t||Aa1 r
end
theorem n8s_pos (t:R8):1≤n8s t:=by cases t with|node k s lz l=>rw [n8s];omega
theorem Ca7:∀ l:List R8,l.length≤n8l l
 |[]=>El0 _
 |t::r=>by rw [n8l,En2];have:=n8s_pos t;have:=Ca7 r;omega
theorem De0 (l:List R8) (i:Nat) (h:i<l.length):n8l (l.take (i+1))=n8l (l.take i)+n8s (l.getD i default):=by
 induction l generalizing i with
 |nil=>simp at h
 |cons t r ih=>
  cases i with
  |zero=>simp [n8l]
  |succ i=>
   have:=ih i (by simpa using h);simp only [Ep3,n8l,El9,this];omega
theorem Ai3 (l:List R8) (i:Nat):n8l (l.take i)≤n8l l:=by
 have:=Bt9 (l.take i) (l.drop i);rw [List.take_append_drop] at this;omega
theorem n8l_get (l:List R8) (i:Nat) (h:i<l.length):n8s (l.getD i default)≤n8l l:=by
 have:=De0 l i h;have:=Ai3 l (i+1);omega
theorem Bz7 (l:List R8) (i:Nat) (h:i<l.length):H6 (l.take (i+1))=H6 (l.take i)+B9 (l.getD i default):=by
 induction l generalizing i with
 |nil=>simp at h
 |cons t r ih=>
  cases i with
  |zero=>simp [H6]
  |succ i=>
   have:=ih i (by simpa using h);simp only [Ep3,H6,El9,this];omega
mutual
theorem Ag5:∀ t:R8,B9 t≤n8s t
 | .node k s lz l=>by
  have:=At4 l;rw [B9,n8s]
  split<;>omega
theorem At4:∀ l:List R8,H6 l≤n8l l
 |[]=>by rw [H6];omega
 |t::r=>by
  have:=Ag5 t;have:=At4 r;rw [H6,n8l];omega
end
theorem Ba7:∀ (l:List R8) (i:Nat),i<l.length→(Ac0 l).getD i 0=O1 (l.getD i default)
 |[],i,h=>by simp at h
 |t::r,0,_=>by rw [Ac0];rfl
 |t::r,i+1,h=>by rw [Ac0,El9,El9];exact Ba7 r i (by simpa using h)
theorem V0 (t:R8):0≤O1 t∧O1 t≤9223372036854775807:=by
 cases t with
 |node k s lz l=>
  rw [O1];unfold Ch6
  split
  ·omega
  split
  ·exact V3 _ _
  split
  ·exact M8 _ _
  ·omega
theorem Ct2 (l:List R8) (i:Nat) (h:i<l.length):L5 (l.take (i+1))=L5 (l.take i)++P7 (l.getD i default):=by
 induction l generalizing i with
 |nil=>simp at h
 |cons t r ih=>
  cases i with
  |zero=>simp [L5]
  |succ i=>
   have:=ih i (by simpa using h);simp only [Ep3,L5,El9,this,List.append_assoc]
mutual
theorem Am3:∀ t:R8,G8 t→(P7 t).length=B9 t
 | .node k s lz l,h=>by
  rw [G8] at h;have:=Bs2 l h.2;rw [P7,B9,Ek5,this]
  split
  ·rename_i hk
   have:l.length=0:=by rcases h.1 with h|h|h|h<;>omega
   rw [Es2.1 this,H6]
   rfl
  ·simp
theorem Bs2:∀ l:List R8,G8s l→(L5 l).length=H6 l
 |[],_=>by rw [L5,H6];rfl
 |t::r,h=>by
  rw [G8s] at h;rw [L5,H6,Ek5,Am3 t h.1,Bs2 r h.2]
end
theorem Be2 (l:List R8) (i:Nat) (h:i<l.length):Aa1 (l.take (i+1))=(Aa1 (l.take i)||Bl1 (l.getD i default)):=by
 induction l generalizing i with
 |nil=>simp at h
 |cons t r ih=>
  cases i with
  |zero=>simp [Aa1]
  |succ i=>
   have:=ih i (by simpa using h);simp only [Ep3,Aa1,El9,this,Bool.or_assoc]
theorem Bl0 {l:List R8} {i:Nat} (h:i<l.length) (hl:Bl1 (l.getD i default)=true):Aa1 l=true:=by
 induction l generalizing i with
 |nil=>simp at h
 |cons t r ih=>
  rw [Aa1]
  cases i with
  |zero=>rw [show Bl1 t=true from hl];rfl
  |succ i=>rw [ih (i:=i) (by simpa using h) hl];simp
theorem N8.open {F:Nat→Prop} {w:World} {k:Int} {s:Nat} {lz:Bool} {l:List R8} {cs:List Value} (h:N8 F w (.node k s lz l) cs):∃ A c css,cs=n8C k s lz A l.length c∧Rd F w 7 A l.length (List.flatten css)∧N8r F w l css:=by rw [N8] at h;exact h
def Cg5 (t:R8):Prop:=∀ (cs:List Value) (F:Nat→Prop) (w:World),(∀ x,F x→x<w.heap.size)→N8 F w t cs→Calls P 59 #[.agg cs.toArray] w (Ret fun u w'=>u= .int .i64 (n8s t:Nat)∧Chg [] w w')
theorem Dp7 (k:Int) (s:Nat) (lz:Bool) (l:List R8) (hb:n8l l≤100000) (hc:∀ i,i<l.length→Cg5 (l.getD i default)):Cg5 (.node k s lz l):=by
 intro cs F w hF hN;have hC:=A8 [] w;have hll:=Ca7 l;obtain ⟨A,c,css,rfl,hr,hI⟩:=hN.open;rw [n8s];refine D4 Tryz.func59 J J (Qd (B5 J (E1 J J) ?_));intro b1 w1 hb1 hs1 hx1 hB1;have hC:=hC.s0 hx1;have hr:=hr.u hx1;have hI:=hI.u hx1
 refine Zc 1 J (Qd (Zc 1 J (Qa (Qd (Zc 1 J (B2 (D8 (σ:=Nat) (fun i=>[(1,.pointer (some ⟨b1,0,none⟩)),(3,.int .i64 ((1+n8l (l.take i):Nat):Int)),(4,.int .i64 (i:Nat))]) (fun i wr=>Chg [] w wr∧Rd F wr 7 A l.length (List.flatten css)∧N8r F wr l css∧Blk wr b1 (n8C k s lz A l.length c) 73∧i≤l.length) (fun i wr=>l.length - i) 0 ⟨rfl,(G2 J (by rw [Es0,n8l];rfl)),rfl,trivial⟩ ?_ ?_)))))))
 ·exact ⟨hC,hr,hI,hB1,El0 _⟩
 rintro i w9 ⟨hC,hr,hI,hB1,hi⟩
 try have hlB1:=hB1.lt
 refine Qa (Qd (Z 1 J (Fa P5 J (Lb o71 J ‹_› (by rfl) ?_))))
 refine Ln Tryz.underlying71 J (Zc 1 J (A4 J (fun h1=>?_) (fun h1=>?_)))
 ·try simp at h1
  have hin:i<l.length:=by omega
  have hIi:=hI.get i hin;have hlen:=hIi.len;have htk:=De0 l i hin;have hle:=Ai3 l (i+1);obtain ⟨gA,off,rfl,hFg,hlt,hcell⟩:=hr.at_ (by omega);refine A7 (Qa (B2 (Qb (Z 1 J (Fa P5 J (Lb o71 J ‹_› (by rfl) ?_))))));refine Z 1 J (C9 J (C2 Am0 J J (by omega) (by omega)) (C9 J (E8 (vs:=css.getD i []) M9 J (F4 _) (fun j v hj=>by rw [Em3];exact hcell (i*7+j) v (hI.row i hin j v hj)) hlen) ?_));refine Ca fb59 J (hc i hin (css.getD i []) F _ (fun z hz=>by have:=hF z hz;omega) hIi) ?_;rintro _ w2 ⟨rfl,hx2⟩;have hC:=hC.s0 hx2;have hr:=hr.u hx2;have hI:=hI.u hx2;have hB1:=hB1.u hx2;refine Ad J J (by omega) (Zc 1 J (Qb (Z 1 J (Ad J J (by omega) (Zc 1 J ⟨i+1,⟨rfl,(G2 J (by rw [htk];omega)),rfl,trivial⟩,?_,?_⟩)))));exact ⟨hC,hr,hI,hB1,hin⟩;show l.length - (i+1)<l.length - i;omega
 ·try simp at h1
  have hii:i=l.length:=by omega
  subst hii;rw [Eo6];exact Xb (Qd (Zc 2 J (A6 (B4 J J ⟨rfl,hC⟩))))
def Bh3 (t:R8):Prop:=∀ (cs:List Value) (F:Nat→Prop) (w:World),(∀ x,F x→x<w.heap.size)→N8 F w t cs→Calls P 58 #[.agg cs.toArray] w (Ret fun u w'=>u= .int .i64 (B9 t:Nat)∧Chg [] w w')
theorem Cu1 (k:Int) (s:Nat) (lz:Bool) (l:List R8) (hb:n8l l≤100000) (hc:∀ i,i<l.length→Bh3 (l.getD i default)):Bh3 (.node k s lz l):=by
 intro cs F w hF hN;have hC:=A8 [] w;have hll:=Ca7 l;obtain ⟨A,c,css,rfl,hr,hI⟩:=hN.open;rw [B9];refine D4 Tryz.func58 J J (Qd (B5 J (E1 J J) ?_));intro b1 w1 hb1 hs1 hx1 hB1;have hC:=hC.s0 hx1;have hr:=hr.u hx1;have hI:=hI.u hx1;refine Zc 1 J (Qa (Qd (Fa Ay8 J (Lb o3 J ‹_› (by rfl) ?_))))
 refine Zc 1 J (A4 J (fun q1=>?_) (fun q1=>?_))
 ·try simp at q1
  rw [Ek1 q1];exact Qd (Zc 1 J (A6 (B4 J J ⟨rfl,hC⟩)))
 ·try simp at q1
  rw [Ek0 q1]
  refine A7 (Qd (Zc 1 J (Qa (Qd (Zc 1 J (B2 (D8 (σ:=Nat) (fun i=>[(1,.pointer (some ⟨b1,0,none⟩)),(3,.int .i64 ((H6 (l.take i):Nat):Int)),(4,.int .i64 (i:Nat))]) (fun i wr=>Chg [] w wr∧Rd F wr 7 A l.length (List.flatten css)∧N8r F wr l css∧Blk wr b1 (n8C k s lz A l.length c) 73∧i≤l.length) (fun i wr=>l.length - i) 0 ⟨rfl,(G2 J (by rw [Es0,H6];rfl)),rfl,trivial⟩ ?_ ?_)))))))
  ·exact ⟨hC,hr,hI,hB1,El0 _⟩
  rintro i w9 ⟨hC,hr,hI,hB1,hi⟩
  try have hlB1:=hB1.lt
  refine Qa (Qd (Z 1 J (Fa P5 J (Lb o71 J ‹_› (by rfl) ?_))))
  refine Ln Tryz.underlying71 J (Zc 1 J (A4 J (fun h1=>?_) (fun h1=>?_)))
  ·try simp at h1
   have hin:i<l.length:=by omega
   have hIi:=hI.get i hin;have hlen:=hIi.len;have htk:=Bz7 l i hin;have hle:=Ai3 l (i+1);have hpl:=At4 (l.take (i+1));obtain ⟨gA,off,rfl,hFg,hlt,hcell⟩:=hr.at_ (by omega);refine A7 (Qa (B2 (Qb (Z 1 J (Fa P5 J (Lb o71 J ‹_› (by rfl) ?_))))));refine Z 1 J (C9 J (C2 Am0 J J (by omega) (by omega)) (C9 J (E8 (vs:=css.getD i []) M9 J (F4 _) (fun j v hj=>by rw [Em3];exact hcell (i*7+j) v (hI.row i hin j v hj)) hlen) ?_));refine Ca fb58 J (hc i hin (css.getD i []) F _ (fun z hz=>by have:=hF z hz;omega) hIi) ?_;rintro _ w2 ⟨rfl,hx2⟩;have hC:=hC.s0 hx2;have hr:=hr.u hx2;have hI:=hI.u hx2;have hB1:=hB1.u hx2;refine Ad J J (by omega) (Zc 1 J (Qb (Z 1 J (Ad J J (by omega) (Zc 1 J ⟨i+1,⟨rfl,(G2 J (by rw [htk];omega)),rfl,trivial⟩,?_,?_⟩)))));exact ⟨hC,hr,hI,hB1,hin⟩;show l.length - (i+1)<l.length - i;omega
  ·try simp at h1
   have hii:i=l.length:=by omega
   subst hii;rw [Eo6];exact Xb (Qd (Zc 2 J (A6 (B4 J J ⟨rfl,hC⟩))))
def Di4 (t:R8):Prop:=∀ (cs:List Value) (F:Nat→Prop) (w:World),(∀ x,F x→x<w.heap.size)→N8 F w t cs→Calls P 69 #[.agg cs.toArray] w (Ret fun u w'=>u= .int .i64 (O1 t)∧Chg [] w w')
theorem Ds6 (k:Int) (s:Nat) (lz:Bool) (l:List R8) (hk:K8 k l.length) (hc:∀ i,i<l.length→Di4 (l.getD i default)):Di4 (.node k s lz l):=by
 intro cs F w hF hN;have hC:=A8 [] w;obtain ⟨A,c,css,rfl,hr,hI⟩:=hN.open;have hV:∀ i,i<l.length→(Ac0 l).getD i 0=O1 (l.getD i default):=fun i=>Ba7 l i
 rw [O1];generalize Ac0 l=vs at*;refine D4 Tryz.func69 J J (Qd (B5 J (E1 J J) ?_));intro b1 w1 hb1 hs1 hx1 hB1;have hC:=hC.s0 hx1;have hr:=hr.u hx1;have hI:=hI.u hx1;refine Zc 1 J (Qa (Qd (Fa Ay8 J (Lb o3 J ‹_› (by rfl) ?_))))
 refine Qc (B2 (Qa (Qd (Zc 2 J (A4 J (fun q0=>?_) (fun q0=>?_))))))
 ·refine A7 (E3 (H3 J q0) ?_);rw [cmpB_eql] at q0;exact Qd (Zc 1 J (A6 (B4 J J ⟨J4 (by unfold Ch6;rw [Ek1 (.inl q0)]),hC⟩)))
 ·rw [cmpB_eqlF] at q0
  refine Qb (Zc 2 J (A4 J (fun q4=>?_) (fun q4=>?_)))
  ·rw [cmpB_eql] at q4;exact Qd (Zc 1 J (A6 (B4 J J ⟨J4 (by unfold Ch6;rw [Ek1 (.inr q4)]),hC⟩)))
  ·rw [cmpB_eqlF] at q4
   refine Qd (Zc 2 J (A4 J (fun q2=>?_) (fun q2=>?_)))
   ·try simp at q2
    have hl2:l.length=2:=by rcases hk with h|h|h|h<;>omega
    have hI0:=hI.get 0 (by omega);have hlen0:=hI0.len;have hI1:=hI.get 1 (by omega);have hlen1:=hI1.len;refine Qa (C8 (S:=[]) 9 [(0,0),(0,1),(0,2),(0,3),(0,5),(0,6),(0,7),(0,8),(1,4),(2,9),(2,10),(2,11)] mo (by kernel_rfl) ?_);intro w2 hx2 hh2;have hC:=hC.s0 hx2;have hr:=hr.u hx2;have hI:=hI.u hx2;have hB1:=hB1.u hx2;have hI0:=hI0.u hx2;have hI1:=hI1.u hx2;have hCS2:=A8 ([]) w2;obtain ⟨gA,off,rfl,hFg,hlt,hcell⟩:=hr.at_ (by omega);refine Fa P5 J (D6 J (B3 o71 J ‹_› (by simp;done) (by rfl)) ?_);refine D6 J (C2 Am0 J J (by omega) (by omega)) (D6 J (J5 (vs:=css.getD 0 []) M9 J ⟨hlt,fun j v hj=>by rw [Em3];exact hcell (0*7+j) v (hI.row 0 (by omega) j v hj)⟩ (by simp;done) hlen0) ?_);refine Fa P5 J (D6 J (B3 o71 J ‹_› (by simp;done) (by rfl)) ?_);refine D6 J (C2 Am0 J J (by omega) (by omega)) (D6 J (J5 (vs:=css.getD 1 []) M9 J ⟨hlt,fun j v hj=>by rw [Em3];exact hcell (1*7+j) v (hI.row 1 (by omega) j v hj)⟩ (by simp;done) hlen1) ?_);refine C5 J (C3 fb69 J) (hc 0 (by omega) (css.getD 0 []) F _ (fun z hz=>by have:=hF z hz;omega) hI0) ?_;rintro _ w3 ⟨rfl,hx3⟩;have hz3:=hx3.size;have hC:=hC.s0 hx3;have hr:=hr.u hx3;have hI:=hI.u hx3;have hB1:=hB1.u hx3;have hI0:=hI0.u hx3;have hI1:=hI1.u hx3;have hCS2:=hCS2.s0 hx3;refine ⟨hCS2,?_⟩;refine Ca fb69 J (hc 1 (by omega) (css.getD 1 []) F _ (fun z hz=>by have:=hF z hz;omega) hI1) ?_;rintro _ w4 ⟨rfl,hx4⟩;have hz4:=hx4.size;have hC:=hC.s0 hx4;have hr:=hr.u hx4;have hI:=hI.u hx4;have hB1:=hB1.u hx4;have hI0:=hI0.u hx4;have hI1:=hI1.u hx4;refine Ca fb50 J (Db8 (O1 (l.getD 0 default)) (O1 (l.getD 1 default)) (V0 _).2 (V0 _).2 _) ?_;rintro _ _ ⟨rfl,rfl⟩;exact Zc 1 J (A6 (B4 J J ⟨J4 (by unfold Ch6;rw [Ek0 (Eu0.2 ⟨q0,q4⟩),Ek1 q2,hV 0 (by omega),hV 1 (by omega)]),hC⟩))
   ·try simp at q2
    refine Qd (Zc 2 J (A4 J (fun q3=>?_) (fun q3=>?_)))
    ·try simp at q3
     have hl2:l.length=2:=by rcases hk with h|h|h|h<;>omega
     have hI0:=hI.get 0 (by omega);have hlen0:=hI0.len;have hI1:=hI.get 1 (by omega);have hlen1:=hI1.len;refine Qa (C8 (S:=[]) 9 [(0,0),(0,1),(0,2),(0,3),(0,5),(0,6),(0,7),(0,8),(1,4),(2,9),(2,10),(2,11)] mo (by kernel_rfl) ?_);intro w6 hx6 hh6;have hC:=hC.s0 hx6;have hr:=hr.u hx6;have hI:=hI.u hx6;have hB1:=hB1.u hx6;have hI0:=hI0.u hx6;have hI1:=hI1.u hx6;have hCS6:=A8 ([]) w6;obtain ⟨gA,off,rfl,hFg,hlt,hcell⟩:=hr.at_ (by omega);refine Fa P5 J (D6 J (B3 o71 J ‹_› (by simp;done) (by rfl)) ?_);refine D6 J (C2 Am0 J J (by omega) (by omega)) (D6 J (J5 (vs:=css.getD 0 []) M9 J ⟨hlt,fun j v hj=>by rw [Em3];exact hcell (0*7+j) v (hI.row 0 (by omega) j v hj)⟩ (by simp;done) hlen0) ?_);refine Fa P5 J (D6 J (B3 o71 J ‹_› (by simp;done) (by rfl)) ?_);refine D6 J (C2 Am0 J J (by omega) (by omega)) (D6 J (J5 (vs:=css.getD 1 []) M9 J ⟨hlt,fun j v hj=>by rw [Em3];exact hcell (1*7+j) v (hI.row 1 (by omega) j v hj)⟩ (by simp;done) hlen1) ?_);refine C5 J (C3 fb69 J) (hc 0 (by omega) (css.getD 0 []) F _ (fun z hz=>by have:=hF z hz;omega) hI0) ?_;rintro _ w7 ⟨rfl,hx7⟩;have hz7:=hx7.size;have hC:=hC.s0 hx7;have hr:=hr.u hx7;have hI:=hI.u hx7;have hB1:=hB1.u hx7;have hI0:=hI0.u hx7;have hI1:=hI1.u hx7;have hCS6:=hCS6.s0 hx7;refine ⟨hCS6,?_⟩;refine Ca fb69 J (hc 1 (by omega) (css.getD 1 []) F _ (fun z hz=>by have:=hF z hz;omega) hI1) ?_;rintro _ w8 ⟨rfl,hx8⟩;have hz8:=hx8.size;have hC:=hC.s0 hx8;have hr:=hr.u hx8;have hI:=hI.u hx8;have hB1:=hB1.u hx8;have hI0:=hI0.u hx8;have hI1:=hI1.u hx8;refine Ca Cr9 J (Aa6 (O1 (l.getD 0 default)) (O1 (l.getD 1 default)) (V0 _).2 (V0 _).2 _) ?_;rintro _ _ ⟨rfl,rfl⟩;exact Zc 1 J (A6 (B4 J J ⟨J4 (by unfold Ch6;rw [Ek0 (Eu0.2 ⟨q0,q4⟩),Ek0 q2,Ek1 q3,hV 0 (by omega),hV 1 (by omega)]),hC⟩))
    ·try simp at q3
     exact A7 (Qd (Zc 1 J (A6 (B4 J J ⟨J4 (by unfold Ch6;rw [Ek0 (Eu0.2 ⟨q0,q4⟩),Ek0 q2,Ek0 q3]),hC⟩))))
mutual
theorem Dh5:∀ t:R8,n8s t≤100000→Cg5 t
 | .node k s lz l,h=>by
  rw [n8s] at h;exact Dp7 k s lz l (by omega) (Co8 l (by omega))
theorem Co8:∀ l:List R8,n8l l≤100000→∀ i,i<l.length→Cg5 (l.getD i default)
 |[],_,i,hi=>absurd hi (by simp)
 |t::r,h,0,_=>by rw [n8l] at h;exact Dh5 t (by omega)
 |t::r,h,i+1,hi=>by rw [n8l] at h;rw [El9];exact Co8 r (by omega) i (by simpa using hi)
end
mutual
theorem An4:∀ t:R8,n8s t≤100000→Bh3 t
 | .node k s lz l,h=>by
  rw [n8s] at h;exact Cu1 k s lz l (by omega) (Ag4 l (by omega))
theorem Ag4:∀ l:List R8,n8l l≤100000→∀ i,i<l.length→Bh3 (l.getD i default)
 |[],_,i,hi=>absurd hi (by simp)
 |t::r,h,0,_=>by rw [n8l] at h;exact An4 t (by omega)
 |t::r,h,i+1,hi=>by rw [n8l] at h;rw [El9];exact Ag4 r (by omega) i (by simpa using hi)
end
mutual
theorem Cs4:∀ t:R8,G8 t→Di4 t
 | .node k s lz l,h=>by
  rw [G8] at h;exact Ds6 k s lz l h.1 (Av9 l h.2)
theorem Av9:∀ l:List R8,G8s l→∀ i,i<l.length→Di4 (l.getD i default)
 |[],_,i,hi=>absurd hi (by simp)
 |t::r,h,0,_=>by rw [G8s] at h;exact Cs4 t h.1
 |t::r,h,i+1,hi=>by rw [G8s] at h;rw [El9];exact Av9 r h.2 i (by simpa using hi)
end
def Cj8 (a b:List Int) (k:Int) (i:Nat):Int:=W1 (a.getD i 0) (Ac2 (b.getD i 0) k)
def Ak8 (a b:List Int) (k:Int):List Int:=(List.range a.length).map (Cj8 a b k)
def Bf6 (a b:List Int) (k:Int) (i:Nat):List Int:=(List.range a.length).map fun x=>if x<i then Cj8 a b k x else 0
theorem An3 (a b:List Int) (k:Int):(Ak8 a b k).length=a.length:=by simp [Ak8]
theorem Cj7 (a b:List Int) (k:Int) (i:Nat):(Bf6 a b k i).length=a.length:=by simp [Bf6]
theorem Dl2 (a b:List Int) (k:Int):Bf6 a b k 0=List.replicate a.length 0:=by
 unfold Bf6;rw [Et9];refine ⟨by simp,fun x hx=>?_⟩;obtain ⟨y,_,rfl⟩:=Eo9.1 hx;rw [Ek0 (by omega)]
theorem Dw8 (a b:List Int) (k:Int):Bf6 a b k a.length=Ak8 a b k:=by
 unfold Bf6 Ak8;apply Eq3;intro x hx;rw [Ek1 (Em9.1 hx)]
theorem Dw7 (a b:List Int) (k:Int) (i:Nat):(Bf6 a b k i).set i (Cj8 a b k i)=Bf6 a b k (i+1):=by
 apply Em4;intro j;simp only [Bf6,En1,El8,Eo2,Eq4]
 by_cases hj:i=j
 ·subst hj
  by_cases h:i<a.length
  ·simp [h]
  ·simp [El5 (l:=List.range a.length) (i:=i) (by simp;omega),h]
 ·simp only [Ek0 hj]
  by_cases h:j<a.length
  ·simp only [Em7 h,En4]
   congr 1
   by_cases h2:j<i
   ·simp [h2,show j<i+1 by omega]
   ·simp [h2,show ¬ j<i+1 by omega]
  ·simp [El5 (l:=List.range a.length) (i:=j) (by simp;omega)]
theorem Bg3 (a b:List Int) (k:Int):rangeOk (Ak8 a b k):=fun x hx=>by
 obtain ⟨i,_,rfl⟩:=Eo9.1 hx;exact M8 _ _
theorem rplus_c (a b:List Int) (k:Int) (ba bb:Nat) (w:World) (hab:b.length=a.length) (hal:a.length≤1000000) (ha:rangeOk a) (hb:rangeOk b) (hk:k≤9223372036854775807) (hA:Blk w ba (I8 a) 3) (hBb:Blk w bb (I8 b) 3):
  Calls P 136 #[.slice (some ⟨ba,0,none⟩) a.length a.length,.slice (some ⟨bb,0,none⟩) a.length a.length,.int .i64 k] w (Ret fun u w'=>Chg [] w w'∧∃ p,u= .slice (some ⟨p,0,none⟩) a.length a.length∧w.heap.size≤p∧Blk w' p (I8 (Ak8 a b k)) 3):=by
 have hC:=A8 [] w;have hla:=hA.lt;have hlb:=hBb.lt;refine D4 Tryz.func136 J J (Qd (Zc 1 J (Qd (Z 1 J (Ln Tryz.underlying24 J (B5 J (O7 Dg6 zr3 J (cs:=I8 (List.replicate a.length 0)) (by omega) (by omega) (by show (madeCells #[_] (((a.length:Nat):Int).toNat*1)).toList=_;rw [Ek9,En8,T4];simp [I8])) ?_))))));intro b1 w1 hb1 hs1 hx1 hB1;have hC:=hC.s0 hx1;have hA:=hA.u hx1;have hBb:=hBb.u hx1;refine Zc 1 J (Qa (Qd ?_));have hB1':Blk w1 b1 (I8 (Bf6 a b k 0)) 3:=by rw [Dl2];assumption
 refine Zc 1 J (B2 (D8 (σ:=Nat) (fun i=>[(0,.slice (some ⟨ba,0,none⟩) a.length a.length),(1,.slice (some ⟨bb,0,none⟩) a.length a.length),(2,.int .i64 k),(7,.slice (some ⟨b1,0,none⟩) a.length a.length),(8,.int .i64 i)]) (fun i wr=>Chg [] w wr∧Blk wr ba (I8 a) 3∧Blk wr bb (I8 b) 3∧Blk wr b1 (I8 (Bf6 a b k i)) 3∧i≤a.length) (fun i wr=>a.length - i) 0 (sb J) ?_ ?_))
 ·exact ⟨hC,hA,hBb,hB1',El0 _⟩
 rintro i w9 ⟨hC,hA,hBb,hBo,hi⟩
 refine Qa (Qd (Z 2 J (Ln Tryz.underlying24 J (Zc 1 J (A4 J (fun h1=>?_) (fun h1=>?_))))))
 ·try simp at h1
  have hin:i<a.length:=by omega
  have hva:=ha.get i;have hvb:=hb.get i;refine A7 (Qa (B2 (C8 (S:=[]) 13 [(0,0),(0,1),(0,2),(0,3),(0,4),(0,5),(0,6),(0,7),(0,8),(0,9),(0,10),(1,11),(1,12),(2,13),(2,14)] mo (by kernel_rfl) ?_)));intro w2 hx2 hh2;have hz2:=hx2.size;have hA:=hA.u hx2;have hBb:=hBb.u hx2;have hBo:=hBo.u hx2;have hCS2:=A8 ([]) w2;have hra:=hA.rd (F:=fun _=>True) (sz:=1) (m:=a.length) (by rw [G0,En8]) trivial;have hca:=(hra.one (J6 a i hin)).2;have hrb:=hBb.rd (F:=fun _=>True) (sz:=1) (m:=a.length) (by rw [G0,En8];exact hab) trivial;have hcb:=(hrb.one (J6 b i (by omega))).2;refine Z 4 J (D6 J (B0 T8 J J (by omega) (by omega)) (D6 J (E0 o3 J hca (by simp;done)) ?_));refine Z 2 J (D6 J (B0 T8 J J (by omega) (by omega)) (D6 J (E0 o3 J hcb (by simp;done)) ?_));refine Z 1 J (C5 J (C3 fb50 J) (Db8 (b.getD i 0) k hvb.2 hk _) ?_);rintro _ _ ⟨rfl,rfl⟩;refine ⟨hCS2,?_⟩;refine C5 J (C3 Cr9 J) (Aa6 (a.getD i 0) (Ac2 (b.getD i 0) k) hva.2 (V3 _ _).2 _) ?_;rintro _ _ ⟨rfl,rfl⟩;refine ⟨hCS2,?_⟩;refine C9 J (B0 T8 J J (by omega) (by omega)) (Pb (cs':=(I8 (Bf6 a b k (i+1)))) sz3 J J hBo J J J (by rw [G0,Cj7,Ep4];omega) (by rw [Ek9,El6,Z9 _ _ _ (by rw [G0,Cj7];exact hin),← Dw7 a b k i];simp [I8,Et1,Cj8]) ?_);intro w5 hs5 hx5 hBo;have hC:=hC.step (hx2.j hx5) (by simp<;>omega);have hA:=hA.q hx5 (by simp;omega);have hBb:=hBb.q hx5 (by simp;omega);refine Qc (Qb (Z 1 J (Ad J J (by omega) (Zc 1 J ⟨i+1,sb J,?_,?_⟩))));exact ⟨hC,hA,hBb,hBo,hin⟩;show a.length - (i+1)<a.length - i;omega
 ·try simp at h1
  have hii:i=a.length:=by omega
  subst hii;exact Xb (Qd (Zc 2 J (A6 (B4 J J ⟨hC,b1,rfl,by omega,by rw [← Dw8];exact hBo⟩))))
def sum1 (n x:Int):Int:=min (n+min (max x 0) 1000) 2000
def sumR (l:List Int):Int:=l.foldl sum1 0
theorem Br8 (l:List Int):∀ n,0≤n∧n≤2000→0≤l.foldl sum1 n∧l.foldl sum1 n≤2000:=by
 induction l with
 |nil=>intro n h;exact h
 |cons x r ih=>intro n h;exact ih _ (by unfold sum1;omega)
theorem rsum_c (l:List Int) (b:Nat) (w:World) (hl:l.length≤1000000) (hB0:Blk w b (I8 l) 3):Calls P 93 #[.slice (some ⟨b,0,none⟩) l.length l.length] w (Ret fun u w'=>u= .int .i64 (sumR l)∧Chg [] w w'):=by
 have hC:=A8 [] w
 refine D4 Tryz.func93 J J (Qd (Zc 1 J (Qd (Zc 1 J (Qa (Qd (Zc 1 J (B2 (D8 (σ:=Nat) (fun i=>[(0,.slice (some ⟨b,0,none⟩) l.length l.length),(3,.int .i64 ((l.take i).foldl sum1 0)),(4,.int .i64 i)]) (fun i wr=>Chg [] w wr∧Blk wr b (I8 l) 3∧i≤l.length) (fun i wr=>l.length - i) 0 (sb J) ?_ ?_)))))))))
 ·exact ⟨hC,hB0,El0 _⟩
 rintro i w9 ⟨hC,hB0,hi⟩;have hsr:=Br8 (l.take i) 0 (by omega)
 refine Qa (Qd (Z 2 J (Ln Tryz.underlying24 J (Zc 1 J (A4 J (fun h1=>?_) (fun h1=>?_))))))
 ·try simp at h1
  have hin:i<l.length:=by omega
  have hra:=hB0.rd (F:=fun _=>True) (sz:=1) (m:=l.length) (by rw [G0,En8]) trivial;have hca:=(hra.one (J6 l i hin)).2;refine A7 (Qa (B2 (Qb (Z 3 J (C9 J (B0 T8 J J (by omega) (by omega)) (Lc o3 J hca (C9 J (Y9 J J) (C9 J (U9 J J) (Ad J J (by omega) (C9 J (U9 J J) (Zc 1 J (Qb (Z 1 J (Ad J J (by omega) (Zc 1 J ⟨i+1,⟨rfl,(G2 J (by rw [Eq2 hin,En9];simp [sum1,Ek2,Ek4 hin])),rfl,trivial⟩,?_,?_⟩)))))))))))))));exact ⟨hC,hB0,hin⟩;show l.length - (i+1)<l.length - i;omega
 ·try simp at h1
  have hii:i=l.length:=by omega
  subst hii;exact Xb (Qd (Zc 2 J (A6 (B4 J J ⟨J4 (by rw [Eo6];rfl),hC⟩))))
mutual
theorem Db3:∀ t:R8,(P7 t).length≤n8s t
 | .node k s lz l=>by
  have:=Bi1 l;rw [P7,n8s,Ek5]
  split<;>simp<;>omega
theorem Bi1:∀ l:List R8,(L5 l).length≤n8l l
 |[]=>by rw [L5];exact El0 _
 |t::r=>by
  have:=Db3 t;have:=Bi1 r;rw [L5,n8l,Ek5];omega
end
def Di7 (t:R8):Prop:=∀ (cs:List Value) (F:Nat→Prop) (w:World),(∀ x,F x→x<w.heap.size)→N8 F w t cs→Calls P 68 #[.agg cs.toArray] w (Ret fun u w'=>Chg [] w w'∧∃ A c,u= .slice A (P7 t).length c∧Rd (FR w.heap.size w'.heap.size []) w' 4 A (P7 t).length (F5 (P7 t)))
theorem Du2 (k:Int) (s:Nat) (lz:Bool) (l:List R8) (hb:n8l l≤100000) (hc:∀ i,i<l.length→Di7 (l.getD i default)):Di7 (.node k s lz l):=by
 intro cs F w hF hN;have hC:=A8 [] w;have hll:=Ca7 l;obtain ⟨A,c,css,rfl,hr,hI⟩:=hN.open;rw [P7];generalize ho0:(if k=1 then [s] else [])=o0 at*;refine D4 Tryz.func68 J J (Qd (B5 J (E1 J J) ?_));intro b1 w1 hb1 hs1 hx1 hB1;have hC:=hC.s0 hx1;have hr:=hr.u hx1;have hI:=hI.u hx1
 refine Zc 1 J (Qd (Zc 1 J (I3 (fun e9 wr=>∃ A' c',Sub [(1,.pointer (some ⟨b1,0,none⟩)),(3,.slice A' o0.length c')] e9∧Chg [] w wr∧Rd F wr 7 A l.length (List.flatten css)∧N8r F wr l css∧Blk wr b1 (n8C k s lz A l.length c) 73∧Own wr (b1+1) 70 4 A' o0.length c' (F5 o0)) ?_ ?_)))
 ·refine Qd (Fa Ay8 J (Lb o3 J ‹_› (by rfl) ?_))
  refine Zc 1 J (A4 J (fun q1=>?_) (fun q1=>?_))
  ·try simp at q1
   have hO:=Own.nil w1 (b1+1) 70 4;refine Qb (Z 1 J (Fa fl73_1 J (La J0 J ‹_› (by rfl) J ?_)));refine B5 J (B7 Ar5 Tryz.underlying23 N0 J J J (by rfl)) ?_;intro b2 w2 hb2 hs2 hx2 hB2;have hO:=hO.u hx2;refine G1 J el23 J J hO (Blk.rd (F:=fun _=>True) ‹_› J trivial) (by rfl) (by omega) (by omega) ?_;intro A2' c2' w3 hO3 hx3 hA2';have hC:=hC.s0 (hx2.s0 hx3);have hr:=hr.u (hx2.s0 hx3);have hI:=hI.u (hx2.s0 hx3);have hB1:=hB1.u (hx2.s0 hx3)
   replace hO:=hO3
   rw [Ek1 q1] at ho0;subst ho0;refine Zc 1 J ⟨A2',c2',sb J,?_⟩;exact ⟨hC,hr,hI,hB1,hO⟩
  ·try simp at q1
   rw [Ek0 q1] at ho0;subst ho0;refine A7 ⟨none,0,sb J,?_⟩;exact ⟨hC,hr,hI,hB1,Own.nil _ _ _ _⟩
 rintro e9 w8 ⟨A',c',hs9,hC,hr,hI,hB1,hO⟩;refine I2 _ hs9 ?_;clear hs9 e9;have ho0l:o0.length≤1:=by rw [← ho0];split<;>simp
 refine Qa (Qd (Zc 1 J (B2 (D8 (σ:=Nat × Option Addr × Nat) (fun (i,A',c')=>[(1,.pointer (some ⟨b1,0,none⟩)),(3,.slice A' (o0++L5 (l.take i)).length c'),(4,.int .i64 (i:Nat))]) (fun (i,A',c') wr=>Chg [] w wr∧Rd F wr 7 A l.length (List.flatten css)∧N8r F wr l css∧Blk wr b1 (n8C k s lz A l.length c) 73∧Own wr (b1+1) 70 4 A' (o0++L5 (l.take i)).length c' (F5 (o0++L5 (l.take i)))∧i≤l.length) (fun (i,A',c') wr=>l.length - i) (0,A',c') ⟨rfl,(R0 J (by rw [Es0,L5,Ep1])),rfl,trivial⟩ ?_ ?_))))
 ·exact ⟨hC,hr,hI,hB1,by rw [Es0,L5,Ep1];exact hO,El0 _⟩
 rintro ⟨i,A',c'⟩ w9 ⟨hC,hr,hI,hB1,hO,hi⟩;have hOb:=hO.blk
 try have hlB1:=hB1.lt
 refine Qa (Qd (Z 1 J (Fa P5 J (Lb o71 J ‹_› (by rfl) ?_))))
 refine Ln Tryz.underlying71 J (Zc 1 J (A4 J (fun h1=>?_) (fun h1=>?_)))
 ·try simp at h1
  have hin:i<l.length:=by omega
  have hIi:=hI.get i hin;have hlen:=hIi.len;have hl1:=Bi1 (l.take i);have hl2:=Ai3 l i;have hl3:=Db3 (l.getD i default);have hl4:=n8l_get l i hin;have hl5:(o0++L5 (l.take i)).length≤100001:=by rw [Ek5];omega
  obtain ⟨gA,off,rfl,hFg,hlt,hcell⟩:=hr.at_ (by omega);refine A7 (Qa (B2 (Qb (Z 1 J (Fa P5 J (Lb o71 J ‹_› (by rfl) ?_))))));refine Z 1 J (C9 J (C2 Am0 J J (by omega) (by omega)) (C9 J (E8 (vs:=css.getD i []) M9 J (F4 _) (fun j v hj=>by rw [Em3];exact hcell (i*7+j) v (hI.row i hin j v hj)) hlen) ?_));refine Ca fb68 J (hc i hin (css.getD i []) F _ (fun z hz=>by have:=hF z hz;omega) hIi) ?_;rintro _ w4 ⟨hx4,A3,c3,rfl,hr3⟩;have hz4:=hx4.size;have hC:=hC.s0 hx4;have hr:=hr.u hx4;have hI:=hI.u hx4;have hB1:=hB1.u hx4;have hO:=hO.u hx4;have hE:o0++L5 (l.take (i+1))=(o0++L5 (l.take i))++P7 (l.getD i default):=by rw [Ct2 l i hin,List.append_assoc]
  have hEl:(o0++L5 (l.take (i+1))).length=(o0++L5 (l.take i)).length+(P7 (l.getD i default)).length:=by rw [hE,Ek5]
  refine G1 J el23 J J hO (hr3) (by exact Eh7 _) (by omega) (by omega) ?_;intro A2' c2' w5 hO5 hx5 hA2';have hC:=hC.step hx5 (by intro x h;have:=hOb x h;exact .inr (by omega));have hr:=hr.q hx5 (by intro x hx hf;have:=hOb x hx;have:=hF x hf;omega);have hI:=hI.q hx5 (by intro x hx hf;have:=hOb x hx;have:=hF x hf;omega);have hB1:=hB1.q hx5 (by intro h;have:=hOb _ h;omega)
  replace hO:=hO5
  refine Zc 1 J (Qb (Z 1 J (Ad J J (by omega) (Zc 1 J ⟨(i+1,A2',c2'),⟨rfl,(R0 J (by rw [hEl])),rfl,trivial⟩,?_,?_⟩))));refine ⟨hC,hr,hI,hB1,?_,hin⟩;rw [hEl,hE,U6 (o0++L5 (l.take i))];exact hO;show l.length - (i+1)<l.length - i;omega
 ·try simp at h1
  have hii:i=l.length:=by omega
  subst hii;rw [Eo6] at hO;exact Xb (Qd (Zc 2 J (A6 (B4 J J ⟨hC,A',c',by rw [Eo6],hO.rd fun z h1 h2=>⟨by omega,h2,by simp⟩⟩))))
mutual
theorem Du3:∀ t:R8,n8s t≤100000→Di7 t
 | .node k s lz l,h=>by
  rw [n8s] at h;exact Du2 k s lz l (by omega) (Db2 l (by omega))
theorem Db2:∀ l:List R8,n8l l≤100000→∀ i,i<l.length→Di7 (l.getD i default)
 |[],_,i,hi=>absurd hi (by simp)
 |t::r,h,0,_=>by rw [n8l] at h;exact Du3 t (by omega)
 |t::r,h,i+1,hi=>by rw [n8l] at h;rw [El9];exact Db2 r (by omega) i (by simpa using hi)
end
def Cf9 (t:R8):Prop:=∀ (cs:List Value) (F:Nat→Prop) (w:World),(∀ x,F x→x<w.heap.size)→N8 F w t cs→Calls P 92 #[.agg cs.toArray] w (Ret fun u w'=>u= .bool (Bl1 t)∧Chg [] w w')
theorem Dn4 (k:Int) (s:Nat) (lz:Bool) (l:List R8) (hk:K8 k l.length) (hg:G8s l) (hc:∀ i,i<l.length→Cf9 (l.getD i default)):Cf9 (.node k s lz l):=by
 intro cs F w hF hN;have hC:=A8 [] w;have hl2:l.length≤2:=by rcases hk with h|h|h|h<;>omega
 obtain ⟨A,c,css,rfl,hr,hI⟩:=hN.open;rw [Bl1];refine D4 Tryz.func92 J J (Qd (B5 J (E1 J J) ?_));intro b1 w1 hb1 hs1 hx1 hB1;have hC:=hC.s0 hx1;have hr:=hr.u hx1;have hI:=hI.u hx1;refine Zc 1 J (Qa (Qd (Fa Ay8 J (Lb o3 J ‹_› (by rfl) ?_))))
 refine Z 2 J (C0 (d:=7) J (fun q4=>?_) (fun q4=>?_))
 ·try simp at q4
  have hl1:l.length=1:=by rcases hk with h|h|h|h<;>omega
  have hI0:=hI.get 0 (by omega);have hlen0:=hI0.len;obtain ⟨gA,off,rfl,hFg,hlt,hcell⟩:=hr.at_ (by omega);refine Qu J (Fa P5 J (Qu J (Lb o71 J ‹_› (by rfl) ?_)));refine Qu J (C9 J (C2 Am0 J J (by omega) (by omega)) (Qu J (C9 J (E8 (vs:=css.getD 0 []) M9 J (F4 _) (fun j v hj=>by rw [Em3];exact hcell (0*7+j) v (hI.row 0 (by omega) j v hj)) hlen0) ?_)));refine Qu J (Ca fb69 J (Av9 l hg 0 (by omega) (css.getD 0 []) F _ (fun z hz=>by have:=hF z hz;omega) hI0) ?_);rintro _ w2 ⟨rfl,hx2⟩;have hC:=hC.s0 hx2;have hr:=hr.u hx2;have hI:=hI.u hx2;have hB1:=hB1.u hx2;have hv0:=Ba7 l 0 (by omega)
  refine Qu J (Zc 2 J (A4 J (fun g0=>?_) (fun g0=>?_)))
  ·rw [cmpB_gtr] at g0;exact Qd (Zc 1 J (A6 (B4 J J ⟨H5 (by rw [hv0,El2 q4,El2 g0];rfl),hC⟩)))
  ·rw [cmpB_gtrF] at g0;have hfst:(decide (k=4) && decide (300<(Ac0 l).getD 0 0))=false:=by rw [hv0,El3 (p:=300<_) (by omega),Bool.and_false]
   rw [hfst,Er3]
   refine A7 (Qa (Qd (Zc 1 J (B2 (D8 (σ:=Nat) (fun i=>[(1,.pointer (some ⟨b1,0,none⟩)),(3,.int .i64 (i:Nat))]) (fun i wr=>Chg [] w wr∧Rd F wr 7 (some ⟨gA,off,none⟩) l.length (List.flatten css)∧N8r F wr l css∧Blk wr b1 (n8C k s lz (some ⟨gA,off,none⟩) l.length c) 73∧Aa1 (l.take i)=false∧i≤l.length) (fun i wr=>l.length - i) 0 (sb J) ?_ ?_)))))
   ·exact ⟨hC,hr,hI,hB1,by rw [Es0,Aa1],El0 _⟩
   rintro i w9 ⟨hC,hr,hI,hB1,hlp,hi⟩
   try have hlB1:=hB1.lt
   refine Qa (Qd (Z 1 J (Fa P5 J (Lb o71 J ‹_› (by rfl) ?_))))
   refine Ln Tryz.underlying71 J (Zc 1 J (A4 J (fun h1=>?_) (fun h1=>?_)))
   ·try simp at h1
    have hin:i<l.length:=by omega
    have hIi:=hI.get i hin;have hlen:=hIi.len;obtain ⟨gB,off2,hAE,hFg2,hlt2,hcell2⟩:=hr.at_ (by omega)
    cases hAE
    refine A7 (Qa (B2 (Qd (Fa P5 J (Lb o71 J ‹_› (by rfl) ?_)))));refine Z 1 J (C9 J (C2 Am0 J J (by omega) (by omega)) (C9 J (E8 (vs:=css.getD i []) M9 J (F4 _) (fun j v hj=>by rw [Em3];exact hcell2 (i*7+j) v (hI.row i hin j v hj)) hlen) ?_));refine Ca fb92 J (hc i hin (css.getD i []) F _ (fun z hz=>by have:=hF z hz;omega) hIi) ?_;rintro _ w3 ⟨rfl,hx3⟩;have hC:=hC.s0 hx3;have hr:=hr.u hx3;have hI:=hI.u hx3;have hB1:=hB1.u hx3
    refine Qc (A4 J (fun g2=>?_) (fun g2=>?_))
    ·try simp at g2
     exact Qd (Zc 1 J (A6 (B4 J J ⟨H5 (Bl0 hin g2).symm,hC⟩)))
    ·try simp at g2
     refine A7 (Qb (Z 1 J (Ad J J (by omega) (Zc 1 J ⟨i+1,sb J,?_,?_⟩))));exact ⟨hC,hr,hI,hB1,by rw [Be2 l i hin,hlp,Er3];simpa using g2,hin⟩;show l.length - (i+1)<l.length - i;omega
   ·try simp at h1
    have hii:i=l.length:=by omega
    subst hii;rw [Eo6] at hlp;exact Xb (Qd (Zc 1 J (A6 (B4 J J ⟨H5 hlp.symm,hC⟩))))
 ·try simp at q4
  have hfst:(decide (k=4) && decide (300<(Ac0 l).getD 0 0))=false:=by rw [El3 (p:=k=4) q4,Bool.false_and]
  rw [hfst,Er3]
  refine Qk J (Qk J (Qk J (Qk J (Qk J (Qk J (Zc 1 J (E4 J (A7 (Qa (Qd (Zc 1 J (B2 (D8 (σ:=Nat) (fun i=>[(1,.pointer (some ⟨b1,0,none⟩)),(3,.int .i64 (i:Nat))]) (fun i wr=>Chg [] w wr∧Rd F wr 7 A l.length (List.flatten css)∧N8r F wr l css∧Blk wr b1 (n8C k s lz A l.length c) 73∧Aa1 (l.take i)=false∧i≤l.length) (fun i wr=>l.length - i) 0 (sb J) ?_ ?_)))))))))))))
  ·exact ⟨hC,hr,hI,hB1,by rw [Es0,Aa1],El0 _⟩
  rintro i w9 ⟨hC,hr,hI,hB1,hlp,hi⟩
  try have hlB1:=hB1.lt
  refine Qa (Qd (Z 1 J (Fa P5 J (Lb o71 J ‹_› (by rfl) ?_))))
  refine Ln Tryz.underlying71 J (Zc 1 J (A4 J (fun h1=>?_) (fun h1=>?_)))
  ·try simp at h1
   have hin:i<l.length:=by omega
   have hIi:=hI.get i hin;have hlen:=hIi.len;obtain ⟨gB,off2,hAE,hFg2,hlt2,hcell2⟩:=hr.at_ (by omega);subst hAE;refine A7 (Qa (B2 (Qd (Fa P5 J (Lb o71 J ‹_› (by rfl) ?_)))));refine Z 1 J (C9 J (C2 Am0 J J (by omega) (by omega)) (C9 J (E8 (vs:=css.getD i []) M9 J (F4 _) (fun j v hj=>by rw [Em3];exact hcell2 (i*7+j) v (hI.row i hin j v hj)) hlen) ?_));refine Ca fb92 J (hc i hin (css.getD i []) F _ (fun z hz=>by have:=hF z hz;omega) hIi) ?_;rintro _ w4 ⟨rfl,hx4⟩;have hC:=hC.s0 hx4;have hr:=hr.u hx4;have hI:=hI.u hx4;have hB1:=hB1.u hx4
   refine Qc (A4 J (fun g2=>?_) (fun g2=>?_))
   ·try simp at g2
    exact Qd (Zc 1 J (A6 (B4 J J ⟨H5 (Bl0 hin g2).symm,hC⟩)))
   ·try simp at g2
    refine A7 (Qb (Z 1 J (Ad J J (by omega) (Zc 1 J ⟨i+1,sb J,?_,?_⟩))));exact ⟨hC,hr,hI,hB1,by rw [Be2 l i hin,hlp,Er3];simpa using g2,hin⟩;show l.length - (i+1)<l.length - i;omega
  ·try simp at h1
   have hii:i=l.length:=by omega
   subst hii;rw [Eo6] at hlp;exact Xb (Qd (Zc 1 J (A6 (B4 J J ⟨H5 hlp.symm,hC⟩))))
mutual
theorem De8:∀ t:R8,G8 t→Cf9 t
 | .node k s lz l,h=>by
  rw [G8] at h;exact Dn4 k s lz l h.1 h.2 (Cm1 l h.2)
theorem Cm1:∀ l:List R8,G8s l→∀ i,i<l.length→Cf9 (l.getD i default)
 |[],_,i,hi=>absurd hi (by simp)
 |t::r,h,0,_=>by rw [G8s] at h;exact De8 t h.1
 |t::r,h,i+1,hi=>by rw [G8s] at h;rw [El9];exact Cm1 r h.2 i (by simpa using hi)
end
def Co3 (k:Int) (l:List R8) (fs:List (Nat→Nat→Bool→List Int)) (at_ all:Nat) (last:Bool):List Int:=
 if k=0 then List.replicate all 0
 else if k=1 then (List.replicate all 0).set at_ 1
 else if k=4 then fs.getD 0 (fun _ _ _=>[]) at_ all last
 else if k=3 then Ak8 (fs.getD 0 (fun _ _ _=>[]) at_ all last) (fs.getD 1 (fun _ _ _=>[]) (at_+B9 (l.getD 0 default)) all last) 1
 else if last=true then Ak8 (fs.getD 1 (fun _ _ _=>[]) (at_+B9 (l.getD 0 default)) all last) (fs.getD 0 (fun _ _ _=>[]) at_ all last) (O1 (l.getD 1 default))
 else Ak8 (fs.getD 0 (fun _ _ _=>[]) at_ all last) (fs.getD 1 (fun _ _ _=>[]) (at_+B9 (l.getD 0 default)) all last) (O1 (l.getD 0 default))
mutual
def J2:R8→Nat→Nat→Bool→List Int
 | .node k _ _ l=>Co3 k l (W5 l)
def W5:List R8→List (Nat→Nat→Bool→List Int)
 |[]=>[]
 |t::r=>J2 t::W5 r
end
theorem Bc2:∀ (l:List R8) (i:Nat),i<l.length→(W5 l).getD i (fun _ _ _=>[])=J2 (l.getD i default)
 |[],i,h=>by simp at h
 |t::r,0,_=>by rw [W5];rfl
 |t::r,i+1,h=>by rw [W5,El9,El9];exact Bc2 r i (by simpa using h)
theorem An1 (n:Nat):rangeOk (List.replicate n 0):=fun x hx=>by rw [(List.mem_replicate.1 hx).2];omega
theorem Ct8 {l:List Int} (h:rangeOk l) (i:Nat) (v:Int) (hv:0≤v∧v≤9223372036854775807):rangeOk (l.set i v):=fun x hx=>by
 rcases List.mem_or_eq_of_mem_set hx with h1|rfl
 ·exact h x h1
 ·exact hv
def EndOk (t:R8):Prop:=∀ at_ all last,(J2 t at_ all last).length=all∧rangeOk (J2 t at_ all last)
mutual
theorem W6:∀ t:R8,G8 t→EndOk t
 | .node k s lz l,h=>fun at_ all last=>by
  rw [G8] at h;have hs:=Az0 l h.2;rw [J2]
  have hg:∀ i,i<l.length→∀ a,((W5 l).getD i (fun _ _ _=>[]) a all last).length=all∧rangeOk ((W5 l).getD i (fun _ _ _=>[]) a all last):=fun i hi a=>by
   rw [Bc2 l i hi];exact hs i hi a all last
  unfold Co3
  split
  ·exact ⟨by simp,An1 _⟩
  split
  ·exact ⟨by simp,Ct8 (An1 _) _ _ (by omega)⟩
  split
  ·exact hg 0 (by rcases h.1 with h|h|h|h<;>omega) _
  have hl:l.length=2:=by rcases h.1 with h|h|h|h<;>omega
  split
  ·exact ⟨by rw [An3];exact (hg 0 (by omega) _).1,Bg3 _ _ _⟩
  split
  ·exact ⟨by rw [An3];exact (hg 1 (by omega) _).1,Bg3 _ _ _⟩
  ·exact ⟨by rw [An3];exact (hg 0 (by omega) _).1,Bg3 _ _ _⟩
theorem Az0:∀ l:List R8,G8s l→∀ i,i<l.length→EndOk (l.getD i default)
 |[],_,i,hi=>absurd hi (by simp)
 |t::r,h,0,_=>by rw [G8s] at h;exact W6 t h.1
 |t::r,h,i+1,hi=>by rw [G8s] at h;rw [El9];exact Az0 r h.2 i (by simpa using hi)
end
theorem Bz1 (a b:List Int) (k:Int) (n ba bb:Nat) (w:World) (hna:a.length=n) (hnb:b.length=n) (hal:n≤1000000) (ha:rangeOk a) (hb:rangeOk b) (hk:k≤9223372036854775807) (hA:Blk w ba (I8 a) 3) (hBb:Blk w bb (I8 b) 3):
  Calls P 136 #[.slice (some ⟨ba,0,none⟩) n n,.slice (some ⟨bb,0,none⟩) n n,.int .i64 k] w (Ret fun u w'=>Chg [] w w'∧∃ p,u= .slice (some ⟨p,0,none⟩) n n∧w.heap.size≤p∧Blk w' p (I8 (Ak8 a b k)) 3):=by
 subst hna;exact rplus_c a b k ba bb w hnb hal ha hb hk hA hBb
def Dj0 (t:R8):Prop:=∀ (cs:List Value) (F:Nat→Prop) (w:World) (at_ all:Nat) (last:Bool),at_+B9 t≤all→all≤100000→(∀ x,F x→x<w.heap.size)→N8 F w t cs→Calls P 100 #[.agg cs.toArray,.int .i64 (at_:Nat),.int .i64 (all:Nat),.bool last] w (Ret fun u w'=>Chg [] w w'∧∃ p,u= .slice (some ⟨p,0,none⟩) all all∧w.heap.size≤p∧Blk w' p (I8 (J2 t at_ all last)) 3)
theorem Ee4 (k:Int) (s:Nat) (lz:Bool) (l:List R8) (hk:K8 k l.length) (hg:G8s l) (hb:n8l l≤100000) (hc:∀ i,i<l.length→Dj0 (l.getD i default)):Dj0 (.node k s lz l):=by
 intro cs F w at_ all last hat hall hF hN;have hC:=A8 [] w;obtain ⟨A,c,css,rfl,hr,hI⟩:=hN.open;have hE:∀ i,i<l.length→(W5 l).getD i (fun _ _ _=>[])=J2 (l.getD i default):=fun i=>Bc2 l i
 have hOk:∀ i,i<l.length→EndOk (l.getD i default):=Az0 l hg;rw [B9] at hat;rw [J2];generalize W5 l=fs at*;refine D4 Tryz.func100 J J (Qd (B5 J (E1 J J) ?_));intro b1 w1 hb1 hs1 hx1 hB1;have hC:=hC.s0 hx1;have hr:=hr.u hx1;have hI:=hI.u hx1;refine Zc 1 J (Qa (Qd (Fa Ay8 J (Lb o3 J ‹_› (by rfl) ?_))))
 refine Qc (B2 (Qd (Zc 2 J (A4 J (fun q0=>?_) (fun q0=>?_)))))
 ·try simp at q0
  refine Qd (Z 1 J (B5 J (O7 Dg6 zr3 J (cs:=I8 (List.replicate all 0)) (by omega) (by omega) (by show (madeCells #[_] (((all:Nat):Int).toNat*1)).toList=_;rw [Ek9,En8,T4];simp [I8])) ?_));intro b2 w2 hb2 hs2 hx2 hB2;have hC:=hC.s0 hx2;exact Zc 1 J (A6 (B4 J J ⟨hC,_,rfl,by omega,by unfold Co3;rw [Ek1 q0];assumption⟩))
 ·try simp at q0
  refine Qd (Zc 2 J (A4 J (fun q1=>?_) (fun q1=>?_)))
  ·try simp at q1
   rw [Ek1 q1] at hat;refine Qd (Z 1 J (B5 J (O7 Dg6 zr3 J (cs:=I8 (List.replicate all 0)) (by omega) (by omega) (by show (madeCells #[_] (((all:Nat):Int).toNat*1)).toList=_;rw [Ek9,En8,T4];simp [I8])) ?_));intro b3 w3 hb3 hs3 hx3 hB3;refine Zc 1 J (Qd (Z 2 J (C9 J (B0 T8 J J (by omega) (by omega)) (Pb (cs':=(I8 ((List.replicate all 0).set at_ 1))) sz3 J J hB3 J J J (by rw [G0,En5,Ep4];omega) (by rw [Ek9,El6,Z9 _ _ _ (by rw [G0,En5];omega)];simp [I8,Et1]) ?_))));intro w4 hs4 hx4 hB3;have hC:=hC.step (hx3.j hx4) (by simp<;>omega);exact Qc (Qd (Zc 2 J (A6 (B4 J J ⟨hC,_,rfl,by omega,by unfold Co3;rw [Ek0 q0,Ek1 q1];assumption⟩))))
  ·try simp at q1
   rw [Ek0 q1] at hat
   refine Qd (Zc 2 J (A4 J (fun q4=>?_) (fun q4=>?_)))
   ·try simp at q4
    have hl1:l.length=1:=by rcases hk with h|h|h|h<;>omega
    have hp1:H6 l=B9 (l.getD 0 default):=by
     match l,hl1 with
     |[a],_=>simp [H6]
    have hI0:=hI.get 0 (by omega);have hlen0:=hI0.len;obtain ⟨gA,off,rfl,hFg,hlt,hcell⟩:=hr.at_ (by omega);refine Qd (Fa P5 J (Lb o71 J ‹_› (by rfl) ?_));refine C9 J (C2 Am0 J J (by omega) (by omega)) (C9 J (E8 (vs:=css.getD 0 []) M9 J (F4 _) (fun j v hj=>by rw [Em3];exact hcell (0*7+j) v (hI.row 0 (by omega) j v hj)) hlen0) ?_);refine Z 3 J (Ca Cn7 J (hc 0 (by omega) (css.getD 0 []) F _ at_ all last (by omega) hall (fun z hz=>by have:=hF z hz;omega) hI0) ?_);rintro _ w5 ⟨hx5,p,rfl,hp,hBp⟩;have hC:=hC.s0 hx5;exact Zc 1 J (A6 (B4 J J ⟨hC,_,rfl,by omega,by unfold Co3;rw [Ek0 q0,Ek0 q1,Ek1 q4,hE 0 (by omega)];exact hBp⟩))
   ·try simp at q4
    have hl2:l.length=2:=by rcases hk with h|h|h|h<;>omega
    have hp2:H6 l=B9 (l.getD 0 default)+B9 (l.getD 1 default):=by
     match l,hl2 with
     |[a,b],_=>simp [H6]
    have hI0:=hI.get 0 (by omega);have hlen0:=hI0.len;have hI1:=hI.get 1 (by omega);have hlen1:=hI1.len;have hok0:=hOk 0 (by omega) at_ all last;have hok1:=hOk 1 (by omega) (at_+B9 (l.getD 0 default)) all last;have hv0:=V0 (l.getD 0 default);have hv1:=V0 (l.getD 1 default);obtain ⟨gA,off,rfl,hFg,hlt,hcell⟩:=hr.at_ (by omega);refine A7 (Qd (Fa P5 J (Lb o71 J ‹_› (by rfl) ?_)));refine C9 J (C2 Am0 J J (by omega) (by omega)) (C9 J (E8 (vs:=css.getD 0 []) M9 J (F4 _) (fun j v hj=>by rw [Em3];exact hcell (0*7+j) v (hI.row 0 (by omega) j v hj)) hlen0) ?_);refine Z 3 J (Ca Cn7 J (hc 0 (by omega) (css.getD 0 []) F _ at_ all last (by omega) hall (fun z hz=>by have:=hF z hz;omega) hI0) ?_);rintro _ w6 ⟨hx6,p,rfl,hp,hBp⟩
    try have hlBp:=hBp.lt
    refine Zc 1 J (Qa (C8 (S:=[]) 13 [(0,0),(0,1),(0,2),(0,3),(0,4),(0,5),(0,6),(0,7),(0,8),(0,11),(0,12),(1,9),(0,10),(2,13),(2,14)] mo (by kernel_rfl) ?_));intro w7 hx7 hh7;have hr:=hr.u (hx6.s0 hx7);have hI:=hI.u (hx6.s0 hx7);have hB1:=hB1.u (hx6.s0 hx7);have hI0:=hI0.u (hx6.s0 hx7);have hCS7:=A8 ([]) w7;obtain ⟨_,_,hAE,_,hlt2,hcell2⟩:=hr.at_ (by omega)
    cases hAE
    refine Fa P5 J (D6 J (B3 o71 J ‹_› (by simp;done) (by rfl)) ?_);refine D6 J (C2 Am0 J J (by omega) (by omega)) (D6 J (J5 (vs:=css.getD 1 []) M9 J ⟨hlt2,fun j v hj=>by rw [Em3];exact hcell2 (1*7+j) v (hI.row 1 (by omega) j v hj)⟩ (by simp;done) hlen1) ?_);refine Z 1 J (Fa P5 J (D6 J (B3 o71 J ‹_› (by simp;done) (by rfl)) ?_));refine D6 J (C2 Am0 J J (by omega) (by omega)) (D6 J (J5 (vs:=css.getD 0 []) M9 J ⟨hlt2,fun j v hj=>by rw [Em3];exact hcell2 (0*7+j) v (hI.row 0 (by omega) j v hj)⟩ (by simp;done) hlen0) ?_);refine Z 2 J (C5 J (C3 fb58 J) (Ag4 l hb 0 (by omega) (css.getD 0 []) F _ (fun z hz=>by have:=hF z hz;omega) hI0) ?_);rintro _ w8 ⟨rfl,hx8⟩;have hz8:=hx8.size;have hI1:=hI1.u ((hx6.s0 hx7).s0 hx8);have hCS7:=hCS7.s0 hx8;refine ⟨hCS7,?_⟩;refine Ad J J (by omega) (Ca Cn7 J (hc 1 (by omega) (css.getD 1 []) F _ (at_+B9 (l.getD 0 default)) all last (by omega) hall (fun z hz=>by have:=hF z hz;omega) hI1) ?_);rintro _ w9 ⟨hx9,p2,rfl,hp2',hBp2⟩;have hC:=hC.s0 (((hx6.s0 hx7).s0 hx8).s0 hx9);have hr:=hr.u (hx8.s0 hx9);have hI:=hI.u (hx8.s0 hx9);have hB1:=hB1.u (hx8.s0 hx9);have hI0:=hI0.u (hx8.s0 hx9);have hI1:=hI1.u hx9;have hBp:=hBp.u ((hx7.s0 hx8).s0 hx9)
    try have hlBp2:=hBp2.lt
    refine Zc 1 J (Qa (Qd (Fa Ay8 J (Lb o3 J ‹_› (by rfl) ?_))))
    refine Zc 1 J (A4 J (fun q3=>?_) (fun q3=>?_))
    ·try simp at q3
     refine Qd (Z 2 J (Ca fb136 J (Bz1 _ _ 1 all p p2 _ hok0.1 hok1.1 (by omega) hok0.2 hok1.2 (by omega) hBp hBp2) ?_));rintro _ w10 ⟨hx10,p3,rfl,hp3,hBp3⟩;have hC:=hC.s0 hx10;exact Zc 1 J (A6 (B4 J J ⟨hC,_,rfl,by omega,by unfold Co3;rw [Ek0 q0,Ek0 q1,Ek0 q4,Ek1 q3,hE 0 (by omega),hE 1 (by omega)];exact hBp3⟩))
    ·try simp at q3
     refine A7 (Qa (Qd (Zc 1 J (A4 J (fun q5=>?_) (fun q5=>?_)))))
     ·try simp at q5
      subst q5;obtain ⟨_,_,hAE,_,hlt3,hcell3⟩:=hr.at_ (by omega)
      cases hAE
      refine Qd (Z 2 J (Fa P5 J (Lb o71 J ‹_› (by rfl) ?_)));refine C9 J (C2 Am0 J J (by omega) (by omega)) (C9 J (E8 (vs:=css.getD 1 []) M9 J (F4 _) (fun j v hj=>by rw [Em3];exact hcell3 (1*7+j) v (hI.row 1 (by omega) j v hj)) hlen1) ?_);refine Ca fb69 J (Av9 l hg 1 (by omega) (css.getD 1 []) F _ (fun z hz=>by have:=hF z hz;omega) hI1) ?_;rintro _ w11 ⟨rfl,hx11⟩;have hz11:=hx11.size;have hBp:=hBp.u hx11;have hBp2:=hBp2.u hx11;refine Ca fb136 J (Bz1 _ _ (O1 (l.getD 1 default)) all p2 p _ hok1.1 hok0.1 (by omega) hok1.2 hok0.2 hv1.2 hBp2 hBp) ?_;rintro _ w12 ⟨hx12,p3,rfl,hp3,hBp3⟩;have hC:=hC.s0 (hx11.s0 hx12);exact Zc 1 J (A6 (B4 J J ⟨hC,_,rfl,by omega,by unfold Co3;rw [Ek0 q0,Ek0 q1,Ek0 q4,Ek0 q3,Ek1 J,hE 0 (by omega),hE 1 (by omega)];exact hBp3⟩))
     ·try simp at q5
      obtain ⟨_,_,hAE,_,hlt3,hcell3⟩:=hr.at_ (by omega)
      cases hAE
      refine A7 (Qd (Z 2 J (Fa P5 J (Lb o71 J ‹_› (by rfl) ?_))));refine C9 J (C2 Am0 J J (by omega) (by omega)) (C9 J (E8 (vs:=css.getD 0 []) M9 J (F4 _) (fun j v hj=>by rw [Em3];exact hcell3 (0*7+j) v (hI.row 0 (by omega) j v hj)) hlen0) ?_);refine Ca fb69 J (Av9 l hg 0 (by omega) (css.getD 0 []) F _ (fun z hz=>by have:=hF z hz;omega) hI0) ?_;rintro _ w13 ⟨rfl,hx13⟩;have hz13:=hx13.size;have hBp:=hBp.u hx13;have hBp2:=hBp2.u hx13;refine Ca fb136 J (Bz1 _ _ (O1 (l.getD 0 default)) all p p2 _ hok0.1 hok1.1 (by omega) hok0.2 hok1.2 hv0.2 hBp hBp2) ?_;rintro _ w14 ⟨hx14,p3,rfl,hp3,hBp3⟩;have hC:=hC.s0 (hx13.s0 hx14);exact Zc 1 J (A6 (B4 J J ⟨hC,_,rfl,by omega,by unfold Co3;rw [Ek0 q0,Ek0 q1,Ek0 q4,Ek0 q3,Ek0 (by rw [q5];simp),hE 0 (by omega),hE 1 (by omega)];exact hBp3⟩))
mutual
theorem Cx9:∀ t:R8,G8 t→n8s t≤100000→Dj0 t
 | .node k s lz l,h,hn=>by
  rw [G8] at h;rw [n8s] at hn;exact Ee4 k s lz l h.1 h.2 (by omega) (Az1 l h.2 (by omega))
theorem Az1:∀ l:List R8,G8s l→n8l l≤100000→∀ i,i<l.length→Dj0 (l.getD i default)
 |[],_,_,i,hi=>absurd hi (by simp)
 |t::r,h,hn,0,_=>by rw [G8s] at h;rw [n8l] at hn;exact Cx9 t h.1 (by omega)
 |t::r,h,hn,i+1,hi=>by rw [G8s] at h;rw [n8l] at hn;rw [El9];exact Az1 r h.2 (by omega) i (by simpa using hi)
end
theorem Cj0 (t:R8) (hg:G8 t) (hn:n8s t≤100000) (cs:List Value) (F:Nat→Prop) (w:World) (hF:∀ x,F x→x<w.heap.size) (hN:N8 F w t cs):Calls P 70 #[.agg cs.toArray] w (Ret fun u w'=>Chg [] w w'∧∃ p,u= .slice (some ⟨p,0,none⟩) (B9 t) (B9 t)∧w.heap.size≤p∧Blk w' p (I8 (J2 t 0 (B9 t) false)) 3):=by
 have hC:=A8 [] w;have hpl:=Ag5 t;have hone:=hN.one1;obtain ⟨a0,a1,a2,a3,a4,a5,a6,rfl⟩:=hN.cells;refine D4 Tryz.func70 J J (Qd (B5 J (E1 J J) ?_));intro b1 w1 hb1 hs1 hx1 hB1;refine Zc 1 J (Qa (C8 (S:=[]) 3 [(0,0),(0,1),(1,2),(2,3),(2,4)] mo (by kernel_rfl) ?_));intro w2 hx2 hh2;have hN:=hN.u (hx1.s0 hx2);have hB1:=hB1.u hx2;have hCS2:=A8 ([]) w2;refine D6 J (C1 M9 J ‹_› (by simp;done) J J) ?_;refine D6 J (C1 M9 J ‹_› (by simp;done) J J) ?_;refine C5 J (C3 fb58 J) (An4 t hn _ F _ (fun z hz=>by have:=hF z hz;omega) hN) ?_;rintro _ w3 ⟨rfl,hx3⟩;have hz3:=hx3.size;have hN:=hN.u hx3;have hCS2:=hCS2.s0 hx3;refine ⟨hCS2,?_⟩;refine Ca Cn7 J (Cx9 t hg hn _ F _ 0 (B9 t) false (by omega) (by omega) (fun z hz=>by have:=hF z hz;omega) hN) ?_;rintro _ w4 ⟨hx4,p,rfl,hp,hBp⟩;have hC:=hC.s0 (((hx1.s0 hx2).s0 hx3).s0 hx4);exact Zc 1 J (A6 (B4 J J ⟨hC,_,rfl,by omega,hBp⟩))
theorem Db9 (t:R8) (hg:G8 t) (hn:n8s t≤100000) (cs:List Value) (F:Nat→Prop) (w:World) (hF:∀ x,F x→x<w.heap.size) (hN:N8 F w t cs):Calls P 71 #[.agg cs.toArray] w (Ret fun u w'=>Chg [] w w'∧∃ p,u= .slice (some ⟨p,0,none⟩) (B9 t) (B9 t)∧w.heap.size≤p∧Blk w' p (I8 (J2 t 0 (B9 t) true)) 3):=by
 have hC:=A8 [] w;have hpl:=Ag5 t;have hone:=hN.one1;obtain ⟨a0,a1,a2,a3,a4,a5,a6,rfl⟩:=hN.cells;refine D4 Tryz.func71 J J (Qd (B5 J (E1 J J) ?_));intro b1 w1 hb1 hs1 hx1 hB1;refine Zc 1 J (Qa (C8 (S:=[]) 3 [(0,0),(0,1),(1,2),(2,3),(2,4)] mo (by kernel_rfl) ?_));intro w2 hx2 hh2;have hN:=hN.u (hx1.s0 hx2);have hB1:=hB1.u hx2;have hCS2:=A8 ([]) w2;refine D6 J (C1 M9 J ‹_› (by simp;done) J J) ?_;refine D6 J (C1 M9 J ‹_› (by simp;done) J J) ?_;refine C5 J (C3 fb58 J) (An4 t hn _ F _ (fun z hz=>by have:=hF z hz;omega) hN) ?_;rintro _ w3 ⟨rfl,hx3⟩;have hz3:=hx3.size;have hN:=hN.u hx3;have hCS2:=hCS2.s0 hx3;refine ⟨hCS2,?_⟩;refine Ca Cn7 J (Cx9 t hg hn _ F _ 0 (B9 t) true (by omega) (by omega) (fun z hz=>by have:=hF z hz;omega) hN) ?_;rintro _ w4 ⟨hx4,p,rfl,hp,hBp⟩;have hC:=hC.s0 (((hx1.s0 hx2).s0 hx3).s0 hx4);exact Zc 1 J (A6 (B4 J J ⟨hC,_,rfl,by omega,hBp⟩))
def X2 (all:Nat) (bs:List Nat):List Value:=bs.map fun b=>.slice (some ⟨b,0,none⟩) all all
theorem Aw8 (all:Nat) (bs:List Nat):(X2 all bs).length=bs.length:=by simp [X2]
theorem Bi6 (all:Nat) (bs:List Nat) (p:Nat) (h:p<bs.length):(X2 all bs)[p]?=some (.slice (some ⟨bs.getD p 0,0,none⟩) all all):=by
 simp [X2,Ek4 h,Ek2]
theorem Dv2 (all:Nat) (bs:List Nat) (p q:Nat):(X2 all bs).set p (.slice (some ⟨q,0,none⟩) all all)=X2 all (bs.set p q):=by simp [X2,Et1]
structure RowsB (G:Nat→Prop) (w:World) (all:Nat) (bs:List Nat) (T:List (List Int)):Prop where
 lb:bs.length=all
 lt:T.length=all
 row:∀ p,p<all→G (bs.getD p 0)∧Blk w (bs.getD p 0) (I8 (T.getD p [])) 3∧(T.getD p []).length=all∧rangeOk (T.getD p [])
theorem RowsB.q {G:Nat→Prop} {w w':World} {all:Nat} {bs:List Nat} {T:List (List Int)} {S:List Nat} (h:RowsB G w all bs T) (c:Chg S w w') (hS:∀ b∈S,¬ G b):RowsB G w' all bs T:=
 ⟨h.lb,h.lt,fun p hp=>⟨(h.row p hp).1,(h.row p hp).2.1.q c fun hm=>hS _ hm (h.row p hp).1,(h.row p hp).2.2⟩⟩
theorem RowsB.u {G:Nat→Prop} {w w':World} {all:Nat} {bs:List Nat} {T:List (List Int)} (h:RowsB G w all bs T) (c:Chg [] w w'):RowsB G w' all bs T:=h.q c (fun b hb=>by cases hb)
theorem RowsB.mono {G G':Nat→Prop} {w:World} {all:Nat} {bs:List Nat} {T:List (List Int)} (h:RowsB G w all bs T) (hG:∀ b,G b→b<w.heap.size→G' b):RowsB G' w all bs T:=
 ⟨h.lb,h.lt,fun p hp=>⟨hG _ (h.row p hp).1 (h.row p hp).2.1.lt,(h.row p hp).2⟩⟩
theorem Ci8 {α:Type} (l:List α) (i j:Nat) (v d:α) (hi:i<l.length):(l.set i v).getD j d=if i=j then v else l.getD j d:=by
 simp only [Ek2,En1]
 by_cases h:i=j
 ·rw [Ek1 h,Ek1 h,Ek1 hi];rfl
 ·rw [Ek0 h,Ek0 h]
theorem RowsB.put {G:Nat→Prop} {w:World} {all:Nat} {bs:List Nat} {T:List (List Int)} (h:RowsB G w all bs T) {p q:Nat} {row:List Int} (hp:p<all) (hq:Blk w q (I8 row) 3) (hG:G q) (hl:row.length=all) (hr:rangeOk row):RowsB G w all (bs.set p q) (T.set p row):=by
 refine ⟨by rw [Et8];exact h.lb,by rw [Et8];exact h.lt,fun x hx=>?_⟩;rw [Ci8 _ _ _ _ _ (by rw [h.lb];exact hp),Ci8 _ _ _ _ _ (by rw [h.lt];exact hp)]
 by_cases hc:p=x
 ·rw [Ek1 hc,Ek1 hc];exact ⟨hG,hq,hl,hr⟩
 ·rw [Ek0 hc,Ek0 hc];exact h.row x hx
def Ei4 (T:List (List Int)) (to frm:List Int) (i:Nat):List (List Int):=(List.range T.length).map fun x=>if x<i then Ak8 (T.getD x []) to (frm.getD x 0) else T.getD x []
def addR (T:List (List Int)) (to frm:List Int):List (List Int):=Ei4 T to frm T.length
theorem Ei3 (T:List (List Int)) (to frm:List Int):Ei4 T to frm 0=T:=by
 apply Em4;intro j;simp only [Ei4,El8]
 by_cases h:j<T.length
 ·simp [Em7 h,Ek4 h,Ek2]
 ·simp [El5 (l:=List.range T.length) (i:=j) (by simp;omega),El5 (l:=T) (i:=j) (by omega)]
theorem addL_len (T:List (List Int)) (to frm:List Int) (i:Nat):(Ei4 T to frm i).length=T.length:=by simp [Ei4]
theorem Cf6 (T:List (List Int)) (to frm:List Int) (i j:Nat) (h:j<T.length):(Ei4 T to frm i).getD j []=if j<i then Ak8 (T.getD j []) to (frm.getD j 0) else T.getD j []:=by
 rw [Ek2];simp only [Ei4,El8,Em7 h,En4,Eo1]
theorem addL_set (T:List (List Int)) (to frm:List Int) (i:Nat) (h:i<T.length):(Ei4 T to frm i).set i (Ak8 (T.getD i []) to (frm.getD i 0))=Ei4 T to frm (i+1):=by
 apply Em4;intro j;simp only [Ei4,En1,El8,Eo2,Eq4]
 by_cases hj:i=j
 ·subst hj;simp [h,Em7 h]
 ·simp only [Ek0 hj]
  by_cases h2:j<T.length
  ·simp only [Em7 h2,En4]
   congr 1
   by_cases h3:j<i
   ·simp [h3,show j<i+1 by omega]
   ·simp [h3,show ¬ j<i+1 by omega]
  ·simp [El5 (l:=List.range T.length) (i:=j) (by simp;omega)]
def folG (l:List R8) (fs:List (Nat→Nat→List (List Int)→List (List Int))) (at_ all:Nat) (T:List (List Int)):List (List Int):=
 match l,fs with
 |t::ts,f::r=>folG ts r (at_+B9 t) all (f at_ all T)
 |_,_=>T
def folK (k:Int) (l:List R8) (at_ all:Nat) (T:List (List Int)):List (List Int):=
 if k=2∨k=4 then addR T (if k=2 then J2 (l.getD 1 default) (at_+B9 (l.getD 0 default)) all false else J2 (l.getD 0 default) at_ all false) (J2 (l.getD 0 default) at_ all true) else T
mutual
def Cg9:R8→Nat→Nat→List (List Int)→List (List Int)
 | .node k _ _ l=>fun at_ all T=>folG l (Ao5 l) at_ all (folK k l at_ all T)
def Ao5:List R8→List (Nat→Nat→List (List Int)→List (List Int))
 |[]=>[]
 |t::r=>Cg9 t::Ao5 r
end
theorem Ec7 (l:List R8) (i:Nat) (h:i<l.length) (at_ all:Nat) (T:List (List Int)):folG (l.drop i) (Ao5 (l.drop i)) at_ all T=folG (l.drop (i+1)) (Ao5 (l.drop (i+1))) (at_+B9 (l.getD i default)) all (Cg9 (l.getD i default) at_ all T):=by
 have e:l.drop i=l.getD i default::l.drop (i+1):=by
  rw [Eu2 h];simp [Ek2,Ek4 h]
 rw [e,Ao5,folG]
theorem folG_end (at_ all:Nat) (T:List (List Int)):folG [] (Ao5 []) at_ all T=T:=by rw [Ao5,folG];intros;simp_all
theorem Ax5 (l:List R8) (i:Nat) (h:i<l.length):H6 (l.drop i)=B9 (l.getD i default)+H6 (l.drop (i+1)):=by
 have e:l.drop i=l.getD i default::l.drop (i+1):=by
  rw [Eu2 h];simp [Ek2,Ek4 h]
 rw [e,H6]
def FolRC (t:R8):Prop:=∀ (cs:List Value) (F:Nat→Prop) (w:World) (at_ all bt:Nat) (bs:List Nat) (T:List (List Int)) (G:Nat→Prop),¬ G bt→(∀ x,w.heap.size≤x→G x)→at_+B9 t≤all→all≤100000→(∀ x,F x→x<w.heap.size)→¬ F bt→N8 F w t cs→Blk w bt (X2 all bs) 24→RowsB G w all bs T→Calls P 101 #[.agg cs.toArray,.int .i64 (at_:Nat),.int .i64 (all:Nat),.slice (some ⟨bt,0,none⟩) all all] w (Ret fun _ w'=>Chg [bt] w w'∧∃ bs',Blk w' bt (X2 all bs') 24∧RowsB G w' all bs' (Cg9 t at_ all T))
theorem fol_step (k:Int) (s:Nat) (lz:Bool) (l:List R8) (hk:K8 k l.length) (hg:G8s l) (hb:n8l l≤100000) (hc:∀ i,i<l.length→FolRC (l.getD i default)):FolRC (.node k s lz l):=by
 intro cs F w at_ all bt bs T G hGb hGn hat hall hF hFb hN hBt hRo;have hC:=A8 [bt] w;have hbt:=hBt.lt;have hl2:l.length≤2:=by rcases hk with h|h|h|h<;>omega
 have hOk:∀ i,i<l.length→EndOk (l.getD i default):=Az0 l hg;obtain ⟨A,c,css,rfl,hr,hI⟩:=hN.open;rw [B9] at hat;have hE:Cg9 (.node k s lz l) at_ all T=folG l (Ao5 l) at_ all (folK k l at_ all T):=by rw [Cg9]
 rw [hE];have hlen0:0<l.length→(css.getD 0 []).length=7:=fun h=>(hI.get 0 h).len
 have hlen1:1<l.length→(css.getD 1 []).length=7:=fun h=>(hI.get 1 h).len
 try have hlRo:=hRo.lt
 refine D4 Tryz.func101 J J (Qd (B5 J (E1 J J) ?_));intro b1 w1 hb1 hs1 hx1 hB1;have hC:=hC.s0 hx1;have hr:=hr.u hx1;have hI:=hI.u hx1;have hBt:=hBt.u hx1;have hRo:=hRo.u hx1
 refine Qc (I3 (fun e9 wr=>∃ bs,Sub [(1,.int .i64 (at_:Nat)),(2,.int .i64 (all:Nat)),(3,.slice (some ⟨bt,0,none⟩) all all),(4,.pointer (some ⟨b1,0,none⟩))] e9∧Chg [bt] w wr∧Rd F wr 7 A l.length (List.flatten css)∧N8r F wr l css∧Blk wr b1 (n8C k s lz A l.length c) 73∧Blk wr bt (X2 all bs) 24∧RowsB G wr all bs (folK k l at_ all T)) ?_ ?_)
 ·refine I3 (fun e9 wr=>Sub [(1,.int .i64 (at_:Nat)),(2,.int .i64 (all:Nat)),(3,.slice (some ⟨bt,0,none⟩) all all),(4,.pointer (some ⟨b1,0,none⟩)),(19,.bool (decide (k=2∨k=4)))] e9∧Chg [bt] w wr∧Rd F wr 7 A l.length (List.flatten css)∧N8r F wr l css∧Blk wr b1 (n8C k s lz A l.length c) 73∧Blk wr bt (X2 all bs) 24∧RowsB G wr all bs T) ?_ ?_
  ·refine Qb (Fa Ay8 J (Lb o3 J ‹_› (by rfl) ?_))
   refine Z 2 J (C0 (d:=15) J (fun q2=>?_) (fun q2=>?_))
   ·try simp at q2
    refine Qk J (Qk J (Qk J (Zc 1 J ⟨⟨rfl,rfl,rfl,rfl,(H3 J (by rw [El2 (.inl q2)])),trivial⟩,?_⟩)));exact ⟨hC,hr,hI,hB1,hBt,hRo⟩
   ·try simp at q2
    refine Qu J (Fa Ay8 J (Qu J (Lb o3 J ‹_› (by rfl) ?_)));refine Qu J (Zc 2 J ⟨⟨rfl,rfl,rfl,rfl,(H3 J (by rw [El4,cmpB_eql,El7];omega)),trivial⟩,?_⟩);exact ⟨hC,hr,hI,hB1,hBt,hRo⟩
  rintro e9 w8 ⟨hs9,hC,hr,hI,hB1,hBt,hRo⟩;refine I2 _ hs9 ?_;clear hs9 e9
  try have hlB1:=hB1.lt
  try have hlBt:=hBt.lt
  try have hlRo:=hRo.lt
  refine A4 J (fun q24=>?_) (fun q24=>?_)
  ·try simp at q24
   have hk0:¬ k=1:=by omega
   rw [Ek0 hk0] at hat;have hl1:1≤l.length:=by rcases hk with h|h|h|h<;>omega
   have hp1:B9 (l.getD 0 default)≤H6 l:=by
    have:=Ax5 l 0 (by omega);rw [List.drop_zero] at this;omega
   have hlen0:=hlen0 (by omega);have hI0:=hI.get 0 (by omega);have hok0:=hOk 0 (by omega);obtain ⟨gA,off,rfl,hFg,hlt,hcell⟩:=hr.at_ (by omega);refine Qd (Fa P5 J (Lb o71 J ‹_› (by rfl) ?_));refine C9 J (C2 Am0 J J (by omega) (by omega)) (C9 J (E8 (vs:=css.getD 0 []) M9 J (F4 _) (fun j v hj=>by rw [Em3];exact hcell (0*7+j) v (hI.row 0 (by omega) j v hj)) hlen0) ?_);refine Z 2 J (Ca Cn7 J (Az1 l hg hb 0 (by omega) (css.getD 0 []) F _ at_ all true (by omega) hall (fun z hz=>by have:=hF z hz;omega) hI0) ?_);rintro _ w2 ⟨hx2,pf,rfl,hpf,hBf⟩;have hr:=hr.u hx2;have hI:=hI.u hx2;have hB1:=hB1.u hx2;have hI0:=hI0.u hx2
   try have hlBf:=hBf.lt
   obtain ⟨_,_,hAE,_,hlt,hcell⟩:=hr.at_ (by omega)
   cases hAE
   refine Zc 1 J (Qd (Fa P5 J (Lb o71 J ‹_› (by rfl) ?_)));refine C9 J (C2 Am0 J J (by omega) (by omega)) (C9 J (E8 (vs:=css.getD 0 []) M9 J (F4 _) (fun j v hj=>by rw [Em3];exact hcell (0*7+j) v (hI.row 0 (by omega) j v hj)) hlen0) ?_);refine Z 2 J (Ca Cn7 J (Az1 l hg hb 0 (by omega) (css.getD 0 []) F _ at_ all false (by omega) hall (fun z hz=>by have:=hF z hz;omega) hI0) ?_);rintro _ w3 ⟨hx3,pt,rfl,hpt,hBo⟩;have hC:=hC.s0 (hx2.s0 hx3);have hr:=hr.u hx3;have hI:=hI.u hx3;have hB1:=hB1.u hx3;have hBt:=hBt.u (hx2.s0 hx3);have hRo:=hRo.u (hx2.s0 hx3);have hI0:=hI0.u hx3;have hBf:=hBf.u hx3
   try have hlBo:=hBo.lt
   have hok0f:=hok0 at_ all true;have hok0t:=hok0 at_ all false;generalize hfe:J2 (l.getD 0 default) at_ all true=fr at*;generalize hte:(if k=2 then J2 (l.getD 1 default) (at_+B9 (l.getD 0 default)) all false else J2 (l.getD 0 default) at_ all false)=to at*
   refine Zc 1 J (I3 (fun e9 wr=>∃ pt,Sub [(1,.int .i64 (at_:Nat)),(2,.int .i64 (all:Nat)),(3,.slice (some ⟨bt,0,none⟩) all all),(4,.pointer (some ⟨b1,0,none⟩)),(8,.slice (some ⟨pf,0,none⟩) all all),(9,.slice (some ⟨pt,0,none⟩) all all)] e9∧Chg [bt] w wr∧Rd F wr 7 (some ⟨gA,off,none⟩) l.length (List.flatten css)∧N8r F wr l css∧Blk wr b1 (n8C k s lz (some ⟨gA,off,none⟩) l.length c) 73∧Blk wr bt (X2 all bs) 24∧RowsB G wr all bs T∧Blk wr pf (I8 fr) 3∧Blk wr pt (I8 to) 3∧to.length=all∧rangeOk to∧w.heap.size≤pt) ?_ ?_)
   ·refine Qd (Fa Ay8 J (Lb o3 J ‹_› (by rfl) ?_))
    refine Zc 1 J (A4 J (fun q2=>?_) (fun q2=>?_))
    ·try simp at q2
     have hl22:l.length=2:=by rcases hk with h|h|h|h<;>omega
     have hp2:H6 l=B9 (l.getD 0 default)+B9 (l.getD 1 default):=by
      match l,hl22 with
      |[a,b],_=>simp [H6]
     have hlen1:=hlen1 (by omega);have hI1:=hI.get 1 (by omega);refine C8 (S:=[]) 12 [(0,0),(0,1),(0,2),(0,3),(0,4),(0,5),(0,6),(0,7),(0,8),(0,11),(1,9),(0,10),(2,12),(2,13)] mo (by kernel_rfl) ?_;intro w4 hx4 hh4;have hr:=hr.u hx4;have hI:=hI.u hx4;have hB1:=hB1.u hx4;have hI0:=hI0.u hx4;have hCS4:=A8 ([]) w4;obtain ⟨_,_,hAE,_,hlt,hcell⟩:=hr.at_ (by omega)
     cases hAE
     refine Fa P5 J (D6 J (B3 o71 J ‹_› (by simp;done) (by rfl)) ?_);refine D6 J (C2 Am0 J J (by omega) (by omega)) (D6 J (J5 (vs:=css.getD 1 []) M9 J ⟨hlt,fun j v hj=>by rw [Em3];exact hcell (1*7+j) v (hI.row 1 (by omega) j v hj)⟩ (by simp;done) hlen1) ?_);refine Z 1 J (Fa P5 J (D6 J (B3 o71 J ‹_› (by simp;done) (by rfl)) ?_));refine D6 J (C2 Am0 J J (by omega) (by omega)) (D6 J (J5 (vs:=css.getD 0 []) M9 J ⟨hlt,fun j v hj=>by rw [Em3];exact hcell (0*7+j) v (hI.row 0 (by omega) j v hj)⟩ (by simp;done) hlen0) ?_);refine Z 1 J (C5 J (C3 fb58 J) (Ag4 l hb 0 (by omega) (css.getD 0 []) F _ (fun z hz=>by have:=hF z hz;omega) hI0) ?_);rintro _ w5 ⟨rfl,hx5⟩;have hz5:=hx5.size;have hI1:=hI1.u (hx4.s0 hx5);have hCS4:=hCS4.s0 hx5;refine ⟨hCS4,?_⟩;refine Ad J J (by omega) (Ca Cn7 J (Az1 l hg hb 1 (by omega) (css.getD 1 []) F _ (at_+B9 (l.getD 0 default)) all false (by omega) hall (fun z hz=>by have:=hF z hz;omega) hI1) ?_);rintro _ w6 ⟨hx6,pt2,rfl,hpt2,hBo2⟩;have hC:=hC.s0 ((hx4.s0 hx5).s0 hx6);have hr:=hr.u (hx5.s0 hx6);have hI:=hI.u (hx5.s0 hx6);have hB1:=hB1.u (hx5.s0 hx6);have hBt:=hBt.u ((hx4.s0 hx5).s0 hx6);have hRo:=hRo.u ((hx4.s0 hx5).s0 hx6);have hBf:=hBf.u ((hx4.s0 hx5).s0 hx6);have hok1:=hOk 1 (by omega) (at_+B9 (l.getD 0 default)) all false;rw [Ek1 q2] at hte;rw [hte] at hBo2 hok1;refine Zc 1 J ⟨pt2,sb J,?_⟩;exact ⟨hC,hr,hI,hB1,hBt,hRo,hBf,hBo2,hok1.1,hok1.2,by omega⟩
    ·try simp at q2
     rw [Ek0 q2] at hte;rw [hte] at hBo hok0t;refine A7 ⟨pt,sb J,?_⟩;exact ⟨hC,hr,hI,hB1,hBt,hRo,hBf,hBo,hok0t.1,hok0t.2,by omega⟩
   rintro e9 w9 ⟨pt,hs9,hC,hr,hI,hB1,hBt,hRo,hBf,hBo,hto,hto2,hptw⟩;refine I2 _ hs9 ?_;clear hs9 e9;have hfr:=hok0f
   try have hlRo:=hRo.lt
   have hlT:=hRo.lt
   refine Qd (Zc 1 J (B2 (D8 (σ:=Nat × List Nat) (fun (p,bs)=>[(1,.int .i64 (at_:Nat)),(2,.int .i64 (all:Nat)),(3,.slice (some ⟨bt,0,none⟩) all all),(4,.pointer (some ⟨b1,0,none⟩)),(8,.slice (some ⟨pf,0,none⟩) all all),(9,.slice (some ⟨pt,0,none⟩) all all),(10,.int .i64 (p:Nat))]) (fun (p,bs) wr=>Chg [bt] w wr∧Rd F wr 7 (some ⟨gA,off,none⟩) l.length (List.flatten css)∧N8r F wr l css∧Blk wr b1 (n8C k s lz (some ⟨gA,off,none⟩) l.length c) 73∧Blk wr bt (X2 all bs) 24∧RowsB G wr all bs (Ei4 T to fr p)∧Blk wr pf (I8 fr) 3∧Blk wr pt (I8 to) 3∧p≤all) (fun (p,bs) wr=>all - p) (0,bs) (sb J) ?_ ?_)))
   ·exact ⟨hC,hr,hI,hB1,hBt,by rw [Ei3];exact hRo,hBf,hBo,El0 _⟩
   rintro ⟨p,bs⟩ w10 ⟨hC,hr,hI,hB1,hBt,hRo,hBf,hBo,hp⟩
   try have hlBt:=hBt.lt
   try have hlRo:=hRo.lt
   try have hlBf:=hBf.lt
   refine Qa (Qd (Zc 3 J (A4 J (fun g1=>?_) (fun g1=>?_))))
   ·try simp at g1
    have hpa:p<all:=by omega
    have hlb:=hRo.lb;have hfp:=hfr.2.get p;refine A7 (Qa (B2 (C8 (S:=[]) 12 [(0,0),(0,1),(0,2),(0,3),(0,4),(0,5),(0,6),(0,7),(0,8),(0,9),(0,10),(1,11),(2,12),(2,13)] mo (by kernel_rfl) ?_)));intro w7 hx7 hh7;have hBt:=hBt.u hx7;have hRo:=hRo.u hx7;have hBf:=hBf.u hx7;have hBo:=hBo.u hx7;have hCS7:=A8 ([]) w7;obtain ⟨hne,hBp,hlp,hrp⟩:=hRo.row p hpa;rw [Cf6 _ _ _ _ _ (by omega),Ek0 (by omega)] at hBp hlp hrp;refine Z 4 J (D6 J (B0 Cr6 J J (by omega) (by omega)) (D6 J (E0 o24 J (by rw [hBt.cell,El6];exact Bi6 all bs p (by omega)) (by simp;done)) ?_));refine Z 3 J (D6 J (B0 T8 J J (by omega) (by omega)) (D6 J (E0 o3 J (by rw [hBf.cell,El6];exact J6 fr p (by omega)) (by simp;done)) ?_));refine C5 J (C3 fb136 J) (Bz1 (T.getD p []) to (fr.getD p 0) all _ pt _ hlp hto (by omega) hrp hto2 hfp.2 hBp hBo) ?_;rintro _ w8 ⟨hx8,pq,rfl,hpq,hBq⟩;have hBt:=hBt.u hx8;have hCS7:=hCS7.s0 hx8;refine ⟨hCS7,?_⟩;refine C9 J (B0 Cr6 J J (by omega) (by omega)) (Pb (cs':=(X2 all (bs.set p pq))) sz24 J J hBt J J J (by rw [Aw8,Ep4];omega) (by rw [Ek9,El6,Z9 _ _ _ (by rw [Aw8];omega),Dv2]) ?_);intro w9 hs9 hx9 hBt;have hC:=hC.step ((hx7.j hx8).j hx9) (by simp<;>omega);have hr:=hr.q ((hx7.j hx8).j hx9) (by simp<;>omega);have hI:=hI.q ((hx7.j hx8).j hx9) (by simp<;>omega);have hB1:=hB1.q ((hx7.j hx8).j hx9) (by simp<;>omega);have hRo:=hRo.q (hx8.j hx9) (by simp<;>omega);have hBf:=hBf.q (hx8.j hx9) (by simp<;>omega);have hBo:=hBo.q (hx8.j hx9) (by simp<;>omega);have hBq:=hBq.q hx9 (by simp;omega);refine Qc (Qb (Z 1 J (Ad J J (by omega) (Zc 1 J ⟨(p+1,bs.set p pq),sb J,?_,?_⟩))));refine ⟨hC,hr,hI,hB1,hBt,?_,hBf,hBo,hpa⟩;rw [← addL_set T to fr p (by omega)];exact hRo.put hpa hBq (hGn _ (by omega)) (by rw [An3];exact hlp) (Bg3 _ _ _);show all - (p+1)<all - p;omega
   ·try simp at g1
    have hpp:p=all:=by omega
    subst hpp;refine Xb ⟨bs,sb J,?_⟩;refine ⟨hC,hr,hI,hB1,hBt,?_⟩;unfold folK addR;rw [Ek1 q24,hte,hfe,hlT];exact hRo
  ·try simp at q24
   refine A7 ⟨bs,sb J,?_⟩;refine ⟨hC,hr,hI,hB1,hBt,?_⟩;unfold folK;rw [Ek0 (by simpa using q24)];exact hRo
 rintro e9 w9 ⟨bs,hs9,hC,hr,hI,hB1,hBt,hRo⟩;refine I2 _ hs9 ?_;clear hs9 e9
 try have hlRo:=hRo.lt
 generalize hR:folG l (Ao5 l) at_ all (folK k l at_ all T)=R;generalize folK k l at_ all T=T1 at*
 have hat2:at_+H6 l≤all:=by
  by_cases hk1:k=1
  ·have:l.length=0:=by rcases hk with h|h|h|h<;>omega
   rw [Es2.1 this,H6];omega
  ·rw [Ek0 hk1] at hat;exact hat
 refine Qd (Zc 1 J (B2 (D8 (σ:=Nat × Nat × List Nat × List (List Int)) (fun (i,a,bs,T2)=>[(1,.int .i64 (a:Nat)),(2,.int .i64 (all:Nat)),(3,.slice (some ⟨bt,0,none⟩) all all),(4,.pointer (some ⟨b1,0,none⟩)),(11,.int .i64 (i:Nat))]) (fun (i,a,bs,T2) wr=>Chg [bt] w wr∧Rd F wr 7 A l.length (List.flatten css)∧N8r F wr l css∧Blk wr b1 (n8C k s lz A l.length c) 73∧Blk wr bt (X2 all bs) 24∧RowsB G wr all bs T2∧folG (l.drop i) (Ao5 (l.drop i)) a all T2=R∧a+H6 (l.drop i)≤all∧i≤l.length) (fun (i,a,bs,T2) wr=>l.length - i) (0,at_,bs,T1) (sb J) ?_ ?_)))
 ·exact ⟨hC,hr,hI,hB1,hBt,hRo,hR,hat2,El0 _⟩
 rintro ⟨i,a,bs,T2⟩ w10 ⟨hC,hr,hI,hB1,hBt,hRo,hR,ha,hi⟩
 try have hlB1:=hB1.lt
 try have hlRo:=hRo.lt
 refine Qa (Qd (Z 1 J (Fa P5 J (Lb o71 J ‹_› (by rfl) ?_))))
 refine Ln Tryz.underlying71 J (Zc 1 J (A4 J (fun g1=>?_) (fun g1=>?_)))
 ·try simp at g1
  have hin:i<l.length:=by omega
  have hIi:=hI.get i hin;have hlen:=hIi.len;have hpd:=Ax5 l i hin;obtain ⟨gA,off,rfl,hFg,hlt,hcell⟩:=hr.at_ (by omega);refine A7 (Qa (B2 (Qd (Fa P5 J (Lb o71 J ‹_› (by rfl) ?_)))));refine Z 1 J (C9 J (C2 Am0 J J (by omega) (by omega)) (C9 J (E8 (vs:=css.getD i []) M9 J (F4 _) (fun j v hj=>by rw [Em3];exact hcell (i*7+j) v (hI.row i hin j v hj)) hlen) ?_));refine Z 3 J (Ca fb101 J (hc i hin (css.getD i []) F _ a all bt bs T2 G hGb (fun x hx=>hGn x (by omega)) (by omega) hall (fun z hz=>by have:=hF z hz;omega) hFb hIi hBt hRo) ?_);rintro _ w10 ⟨hx10,bs2,hBt',hRo'⟩;have hz10:=hx10.size;have hr:=hr.q hx10 (by simp;omega);have hI:=hI.q hx10 (by simp;omega);have hB1:=hB1.q hx10 (by simp;omega);have hIi:=hIi.q hx10 (by simp;omega);clear hBt;have hBt:=hBt';clear hBt';clear hRo;have hRo:=hRo';clear hRo';obtain ⟨_,_,hAE,_,hlt2,hcell2⟩:=hr.at_ (by omega)
  cases hAE
  refine Qc (Qb (Z 1 J (Fa P5 J (Lb o71 J ‹_› (by rfl) ?_))));refine Z 1 J (C9 J (C2 Am0 J J (by omega) (by omega)) (C9 J (E8 (vs:=css.getD i []) M9 J (F4 _) (fun j v hj=>by rw [Em3];exact hcell2 (i*7+j) v (hI.row i hin j v hj)) hlen) ?_));refine Ca fb58 J (Ag4 l hb i hin (css.getD i []) F _ (fun z hz=>by have:=hF z hz;omega) hIi) ?_;rintro _ w11 ⟨rfl,hx11⟩;have hC:=hC.step (hx10.j hx11) (by simp<;>omega);have hr:=hr.u hx11;have hI:=hI.u hx11;have hB1:=hB1.u hx11;have hBt:=hBt.u hx11;have hRo:=hRo.u hx11;refine Ad J J (by omega) (Zc 1 J (Qb (Z 1 J (Ad J J (by omega) (Zc 1 J ⟨(i+1,a+B9 (l.getD i default),bs2,Cg9 (l.getD i default) a all T2),sb J,?_,?_⟩)))));exact ⟨hC,hr,hI,hB1,hBt,hRo,by rw [← Ec7 l i hin];exact hR,by omega,hin⟩;show l.length - (i+1)<l.length - i;omega
 ·try simp at g1
  have hii:i=l.length:=by omega
  subst hii;rw [List.drop_length,folG_end] at hR;subst hR;exact Xb (T5 J ⟨hC,bs,hBt,hRo⟩)
mutual
theorem folR_c:∀ t:R8,G8 t→n8s t≤100000→FolRC t
 | .node k s lz l,h,hn=>by
  rw [G8] at h;rw [n8s] at hn;exact fol_step k s lz l h.1 h.2 (by omega) (Ec6 l h.2 (by omega))
theorem Ec6:∀ l:List R8,G8s l→n8l l≤100000→∀ i,i<l.length→FolRC (l.getD i default)
 |[],_,_,i,hi=>absurd hi (by simp)
 |t::r,h,hn,0,_=>by rw [G8s] at h;rw [n8l] at hn;exact folR_c t h.1 (by omega)
 |t::r,h,hn,i+1,hi=>by rw [G8s] at h;rw [n8l] at hn;rw [El9];exact Ec6 r h.2 (by omega) i (by simpa using hi)
end
structure PreB (G:Nat→Prop) (w:World) (all p:Nat) (bs:List Nat):Prop where
 lb:bs.length=p
 row:∀ x,x<p→G (bs.getD x 0)∧Blk w (bs.getD x 0) (I8 (List.replicate all 0)) 3
theorem PreB.q {G:Nat→Prop} {w w':World} {all p:Nat} {bs:List Nat} {S:List Nat} (h:PreB G w all p bs) (c:Chg S w w') (hS:∀ b∈S,¬ G b):PreB G w' all p bs:=
 ⟨h.lb,fun x hx=>⟨(h.row x hx).1,(h.row x hx).2.q c fun hm=>hS _ hm (h.row x hx).1⟩⟩
theorem PreB.u {G:Nat→Prop} {w w':World} {all p:Nat} {bs:List Nat} (h:PreB G w all p bs) (c:Chg [] w w'):PreB G w' all p bs:=h.q c (fun b hb=>by cases hb)
theorem PreB.snoc {G:Nat→Prop} {w:World} {all p b:Nat} {bs:List Nat} (h:PreB G w all p bs) (hG:G b) (hB:Blk w b (I8 (List.replicate all 0)) 3):PreB G w all (p+1) (bs++[b]):=by
 refine ⟨by rw [Ek5,h.lb];rfl,fun x hx=>?_⟩
 by_cases hc:x<p
 ·have:=h.row x hc;rw [Ek2,Em6 (by rw [h.lb];exact hc),← Ek2];exact this
 ·have:x=bs.length:=by rw [h.lb];omega
  subst this;rw [Ek2,Em2 (El1 _)];simp;exact ⟨hG,hB⟩
theorem PreB.all {G:Nat→Prop} {w:World} {all:Nat} {bs:List Nat} (h:PreB G w all all bs):RowsB G w all bs (List.replicate all (List.replicate all 0)):=
 ⟨h.lb,by simp,fun p hp=>by
  have e:(List.replicate all (List.replicate all (0:Int))).getD p []=List.replicate all 0:=by simp [Ek2,hp]
  rw [e]
  exact ⟨(h.row p hp).1,(h.row p hp).2,by simp,An1 _⟩⟩
theorem pre_put (all p b:Nat) (bs:List Nat) (hl:bs.length=p) (h:p<all):(X2 all bs++List.replicate (all - p) (Value.slice none 0 0)).take p++[Value.slice (some ⟨b,0,none⟩) all all]++(X2 all bs++List.replicate (all - p) (Value.slice none 0 0)).drop (p+1)=X2 all (bs++[b])++List.replicate (all - (p+1)) (Value.slice none 0 0):=by
 have h1:(X2 all bs).length=p:=by rw [Aw8,hl]
 rw [List.take_append_of_le_length (by omega),En0 (by omega),List.drop_append,List.drop_eq_nil_of_le (by omega),h1,show p+1 - p=1 by omega,List.drop_replicate,show all - p - 1=all - (p+1) by omega];simp [X2]
def V2 (t:R8):List (List Int):=Cg9 t 0 (B9 t) (List.replicate (B9 t) (List.replicate (B9 t) 0))
theorem Ci9 (t:R8) (hg:G8 t) (hn:n8s t≤100000) (cs:List Value) (F:Nat→Prop) (w:World) (hF:∀ x,F x→x<w.heap.size) (hN:N8 F w t cs):Calls P 72 #[.agg cs.toArray] w (Ret fun u w'=>Chg [] w w'∧∃ bt bs,u= .slice (some ⟨bt,0,none⟩) (B9 t) (B9 t)∧w.heap.size≤bt∧Blk w' bt (X2 (B9 t) bs) 24∧RowsB (fun x=>w.heap.size≤x) w' (B9 t) bs (V2 t)):=by
 have hC:=A8 [] w;have hpl:=Ag5 t;have hone:=hN.one1;obtain ⟨a0,a1,a2,a3,a4,a5,a6,rfl⟩:=hN.cells;unfold V2;refine D4 Tryz.func72 J J (Qd (B5 J (E1 J J) ?_));intro b1 w1 hb1 hs1 hx1 hB1;have hN:=hN.u hx1;refine Zc 1 J (Qd (La M9 J ‹_› J J ?_));refine Ca fb58 J (An4 t hn _ F _ (fun z hz=>by have:=hF z hz;omega) hN) ?_;rintro _ w2 ⟨rfl,hx2⟩;have hz2:=hx2.size;generalize hall:B9 t=all at*;refine Zc 1 J (Qd (Z 1 J (B5 J (O7 el25 zr24 J (cs:=List.replicate all (.slice none 0 0)) (by omega) (by omega) (by show (madeCells #[_] (((all:Nat):Int).toNat*1)).toList=_;rw [Ek9,En8,T4])) ?_)));intro b3 w3 hb3 hs3 hx3 hB3;have hC:=hC.s0 ((hx1.s0 hx2).s0 hx3);have hN:=hN.u (hx2.s0 hx3);have hB1:=hB1.u (hx2.s0 hx3);have hBt:Blk w3 b3 (X2 all []++List.replicate (all - 0) (.slice none 0 0)) 24:=by simpa [X2] using hB3
 refine Zc 1 J (Qa (Qd (Zc 1 J (B2 (D8 (σ:=Nat × List Nat) (fun (p,bs)=>[(1,.pointer (some ⟨b1,0,none⟩)),(3,.int .i64 (all:Nat)),(4,.slice (some ⟨b3,0,none⟩) all all),(5,.int .i64 (p:Nat))]) (fun (p,bs) wr=>Chg [] w wr∧N8 F wr t [a0,a1,a2,a3,a4,a5,a6]∧Blk wr b1 [a0,a1,a2,a3,a4,a5,a6] 73∧Blk wr b3 (X2 all bs++List.replicate (all - p) (Value.slice none 0 0)) 24∧PreB (fun x=>b3<x) wr all p bs∧p≤all) (fun (p,bs) wr=>all - p) (0,[]) (sb J) ?_ ?_)))))
 ·exact ⟨hC,hN,hB1,hBt,⟨rfl,fun x hx=>by omega⟩,El0 _⟩
 rintro ⟨p,bs⟩ w9 ⟨hC,hN,hB1,hBt,hPr,hp⟩;have hlt3:=hBt.lt
 refine Qa (Qd (Zc 3 J (A4 J (fun h1=>?_) (fun h1=>?_))))
 ·try simp at h1
  have hpa:p<all:=by omega
  have hlb:=hPr.lb;refine A7 (Qa (B2 (Qb (Z 3 J (B5 J (O7 Dg6 zr3 J (cs:=I8 (List.replicate all 0)) (by omega) (by omega) (by show (madeCells #[_] (((all:Nat):Int).toNat*1)).toList=_;rw [Ek9,En8,T4];simp [I8])) ?_)))));intro b4 w4 hb4 hs4 hx4 hB4;have hN:=hN.u hx4;have hBt:=hBt.u hx4;have hFS:∀ b∈[b3],¬ F b:=fun b hb h=>by have:=hF b h;simp at hb;omega
  refine C9 J (B0 Cr6 J J (by omega) (by omega)) (Pb (cs':=(X2 all (bs++[b4])++List.replicate (all - (p+1)) (Value.slice none 0 0))) sz24 J J hBt J J J (by rw [Ek5,Aw8,En5,Ep4];omega) (by rw [Ek9,El6];exact pre_put all p b4 bs hlb hpa) ?_);intro w5 hs5 hx5 hBt;have hC:=hC.step (hx4.j hx5) (by simp<;>omega);have hN:=hN.q hx5 ‹_›;have hB1:=hB1.q (hx4.j hx5) (by simp<;>omega);have hPr:=hPr.q (hx4.j hx5) (by simp<;>omega);have hB4:=hB4.q hx5 (by simp;omega);refine Qc (Qb (Z 1 J (Ad J J (by omega) (Zc 1 J ⟨(p+1,bs++[b4]),sb J,?_,?_⟩))));exact ⟨hC,hN,hB1,hBt,hPr.snoc (by omega) ‹_›,hpa⟩;show all - (p+1)<all - p;omega
 ·try simp at h1
  have hpp:p=all:=by omega
  subst hpp;rw [Ev0,List.replicate_zero,Ep1] at hBt;have hRo:=hPr.all
  try have hlRo:=hRo.lt
  refine Xb (Qd (La M9 J ‹_› J J ?_));refine Z 2 J (Ca fb101 J (folR_c t hg hn _ F _ 0 p b3 bs (List.replicate p (List.replicate p 0)) (fun x=>b3<x) (by omega) (fun x hx=>by omega) (by omega) (by omega) (fun z hz=>by have:=hF z hz;omega) (fun h=>by have:=hF _ h;omega) hN hBt hRo) ?_);rintro _ w6 ⟨hx6,bs2,hBt',hRo'⟩;have hC:=hC.step hx6 (by simp;omega);clear hBt;have hBt:=hBt';clear hBt';clear hRo;have hRo:=hRo';clear hRo';exact Qc (Qd (Zc 2 J (A6 (B4 J J ⟨hC,b3,bs2,rfl,by omega,hBt,hRo.mono fun b h _=>by omega⟩))))
theorem rsum_n (l:List Int) (n b:Nat) (w:World) (hn:l.length=n) (hl:n≤1000000) (hB0:Blk w b (I8 l) 3):Calls P 93 #[.slice (some ⟨b,0,none⟩) n n] w (Ret fun u w'=>u= .int .i64 (sumR l)∧Chg [] w w'):=by
 subst hn;exact rsum_c l b w hl hB0
theorem Br7 (l:List Int):0≤sumR l∧sumR l≤2000:=Br8 l 0 (by omega)
def Bl7 (t:R8) (i:Nat):Bool:=decide (300<sumR ((V2 t).getD i [])+min ((J2 t 0 (B9 t) true).getD i 0) 1000)
def Cm8 (t:R8):Bool:=Bl1 t||decide (300<sumR (J2 t 0 (B9 t) false)+min (O1 t) 1000)||(List.range (B9 t)).any (Bl7 t)
theorem any_succ (f:Nat→Bool) (i:Nat):(List.range (i+1)).any f=((List.range i).any f||f i):=by
 rw [Ep7,List.any_append];simp
theorem idle_c (t:R8) (hg:G8 t) (hn:n8s t≤100000) (cs:List Value) (F:Nat→Prop) (w:World) (hF:∀ x,F x→x<w.heap.size) (hN:N8 F w t cs):Calls P 60 #[.agg cs.toArray] w (Ret fun u w'=>u= .bool (Cm8 t)∧Chg [] w w'):=by
 have hC:=A8 [] w;have hpl:=Ag5 t;have hone:=hN.one1;have hv:=V0 t;obtain ⟨a0,a1,a2,a3,a4,a5,a6,rfl⟩:=hN.cells;have hok:=W6 t hg;refine D4 Tryz.func60 J J (Qd (B5 J (E1 J J) ?_));intro b1 w1 hb1 hs1 hx1 hB1;refine Zc 1 J (Qa (C8 (S:=[]) 3 [(0,0),(0,2),(1,1),(2,3),(2,4),(2,5)] mo (by kernel_rfl) ?_));intro w2 hx2 hh2;have hN:=hN.u (hx1.s0 hx2);have hB1:=hB1.u hx2;have hCS2:=A8 ([]) w2;refine D6 J (C1 M9 J ‹_› (by simp;done) J J) ?_;refine D6 J (C1 M9 J ‹_› (by simp;done) J J) ?_;refine C5 J (C3 fb71 J) (Db9 t hg hn _ F _ (fun z hz=>by have:=hF z hz;omega) hN) ?_;rintro _ w3 ⟨hx3,pl,rfl,hpl2,hBl⟩;have hN:=hN.u hx3;have hCS2:=hCS2.s0 hx3;refine ⟨hCS2,?_⟩
 try have hlBl:=hBl.lt
 refine Ca fb72 J (Ci9 t hg hn _ F _ (fun z hz=>by have:=hF z hz;omega) hN) ?_;rintro _ w4 ⟨hx4,bt,bs,rfl,hbt2,hBt,hRo⟩
 try have hlBt:=hBt.lt
 try have hlRo:=hRo.lt
 refine Zc 2 J (Qa (Qa (C8 (S:=[]) 7 [(0,0),(1,1),(0,2),(0,3),(0,6),(1,4),(1,5),(2,7),(2,8),(2,9),(2,10),(2,11)] mo (by kernel_rfl) ?_)));intro w5 hx5 hh5;have hN:=hN.u (hx4.s0 hx5);have hB1:=hB1.u ((hx3.s0 hx4).s0 hx5);have hCS5:=A8 ([]) w5;have hB1a:=hB1;refine D6 J (C1 M9 J ‹_› (by simp;done) J J) ?_;refine C5 J (C3 fb92 J) (De8 t hg _ F _ (fun z hz=>by have:=hF z hz;omega) hN) ?_;rintro _ w6 ⟨rfl,hx6⟩;have hz6:=hx6.size;have hC:=hC.s0 (((((hx1.s0 hx2).s0 hx3).s0 hx4).s0 hx5).s0 hx6);have hN:=hN.u hx6;have hBl:=hBl.u ((hx4.s0 hx5).s0 hx6);have hBt:=hBt.u (hx5.s0 hx6);have hRo:=hRo.u (hx5.s0 hx6);have hCS5:=hCS5.s0 hx6;refine ⟨hCS5,?_⟩
 refine Z 1 J (C0 (d:=12) J (fun g1=>?_) (fun g1=>?_))
 ·try simp at g1
  refine Qk J (Qk J (Ej3 J J J J J (fun _=>by assumption) ?_));refine Ej3 J J J J J (fun _=>by assumption) ?_;exact Qk J (Qk J (Qk J (Qk J (Zc 1 J (E3 J (Qd (Zc 1 J (A6 (B4 J J ⟨H5 (by unfold Cm8;rw [g1];rfl),hC⟩)))))))))
 ·try simp at g1
  refine Qu J (D6 J (C1 M9 J ‹_› (by simp;done) J J) ?_);refine Qu J (D6 J (C1 M9 J ‹_› (by simp;done) J J) ?_);refine Qu J (C5 J (C3 fb70 J) (Cj0 t hg hn _ F _ (fun z hz=>by have:=hF z hz;omega) hN) ?_);rintro _ w7 ⟨hx7,pf,rfl,hpf2,hBf⟩;have hCS5:=hCS5.s0 hx7;refine ⟨hCS5,?_⟩
  try have hlBf:=hBf.lt
  refine Qu J (C5 J (C3 fb93 J) (rsum_n _ (B9 t) pf _ (hok 0 (B9 t) false).1 (by omega) hBf) ?_);rintro _ w8 ⟨rfl,hx8⟩;have hz8:=hx8.size;have hN:=hN.u (hx7.s0 hx8);have hCS5:=hCS5.s0 hx8;refine ⟨hCS5,?_⟩;have hs1:=Br7 (J2 t 0 (B9 t) false);refine Qu J (Ca fb69 J (Cs4 t hg _ F _ (fun z hz=>by have:=hF z hz;omega) hN) ?_);rintro _ w9 ⟨rfl,hx9⟩;have hC:=hC.s0 ((hx7.s0 hx8).s0 hx9);have hBl:=hBl.u ((hx7.s0 hx8).s0 hx9);have hBt:=hBt.u ((hx7.s0 hx8).s0 hx9);have hRo:=hRo.u ((hx7.s0 hx8).s0 hx9)
  refine Qu J (C9 J (U9 J J) (Qu J (Ad J J (by omega) (Qu J (Zc 2 J (A4 J (fun g2=>?_) (fun g2=>?_)))))))
  ·rw [cmpB_gtr] at g2;exact Qd (Zc 1 J (A6 (B4 J J ⟨H5 (by unfold Cm8;rw [g1,El2 g2];rfl),hC⟩)))
  ·rw [cmpB_gtrF] at g2;have hE:Cm8 t=(List.range (B9 t)).any (Bl7 t):=by unfold Cm8;rw [g1,El3 (p:=300<_) (by omega),Er3,Er3]
   rw [hE]
   refine A7 (Qa (Qd (Zc 1 J (B2 (D8 (σ:=Nat) (fun i=>[(1,.pointer (some ⟨b1,0,none⟩)),(3,.slice (some ⟨pl,0,none⟩) (B9 t) (B9 t)),(4,.slice (some ⟨bt,0,none⟩) (B9 t) (B9 t)),(5,.int .i64 (i:Nat))]) (fun i wr=>Chg [] w wr∧Blk wr pl (I8 (J2 t 0 (B9 t) true)) 3∧Blk wr bt (X2 (B9 t) bs) 24∧RowsB (fun _=>True) wr (B9 t) bs (V2 t)∧(List.range i).any (Bl7 t)=false∧i≤B9 t) (fun i wr=>B9 t - i) 0 (sb J) ?_ ?_)))))
   ·exact ⟨hC,hBl,hBt,hRo.mono fun _ _ _=>trivial,rfl,El0 _⟩
   rintro i w9 ⟨hC,hBl,hBt,hRo,hany,hi⟩
   refine Qa (Qd (Z 2 J (Ln Tryz.underlying25 J (Z 2 J (C0 (d:=26) J (fun h1=>?_) (fun h1=>?_))))))
   ·try simp at h1
    refine Qu J (Z 1 J (Qu J (Z 1 J (Qu J (Ln Tryz.underlying24 J (Qu J (Zc 2 J (A4 J (fun h2=>?_) (fun h2=>?_)))))))))
    ·try simp at h2
     have hin:i<B9 t:=by omega
     have hokl:=hok 0 (B9 t) true;have hlv:=hokl.2.get i;refine A7 (Qa (B2 (Qa (C8 (S:=[]) 10 [(0,0),(0,1),(0,2),(0,3),(0,5),(0,6),(0,7),(0,8),(0,9),(1,4),(2,10),(2,11)] mo (by kernel_rfl) ?_))));intro w10 hx10 hh10;have hBl:=hBl.u hx10;have hBt:=hBt.u hx10;have hRo:=hRo.u hx10;have hCS10:=A8 ([]) w10;obtain ⟨_,hBp,hlp,hrp⟩:=hRo.row i hin;refine Z 2 J (D6 J (B0 Cr6 J J (by omega) (by omega)) (D6 J (E0 o24 J (by rw [hBt.cell,El6];exact Bi6 _ bs i (by rw [hRo.lb];omega)) (by simp;done)) ?_));refine Z 2 J (D6 J (B0 T8 J J (by omega) (by omega)) (D6 J (E0 o3 J (by rw [hBl.cell,El6];exact J6 _ i (by rw [hokl.1];omega)) (by simp;done)) ?_));refine D6 J (U9 J J) (C5 J (C3 fb93 J) (rsum_n ((V2 t).getD i []) (B9 t) _ _ hlp (by omega) hBp) ?_);rintro _ w11 ⟨rfl,hx11⟩;have hC:=hC.s0 (hx10.s0 hx11);have hBl:=hBl.u hx11;have hBt:=hBt.u hx11;have hRo:=hRo.u hx11;have hCS10:=hCS10.s0 hx11;refine ⟨hCS10,?_⟩;have hs2:=Br7 ((V2 t).getD i [])
     refine Ad J J (by omega) (Zc 1 J (A4 J (fun g3=>?_) (fun g3=>?_)))
     ·rw [cmpB_gtr] at g3;have hat:Bl7 t i=true:=by unfold Bl7;rw [El2 g3]
      exact Qd (Zc 1 J (A6 (B4 J J ⟨H5 (Er1.2 ⟨i,Em9.2 hin,hat⟩).symm,hC⟩)))
     ·rw [cmpB_gtrF] at g3;have hat:Bl7 t i=false:=by unfold Bl7;rw [El3 (by omega)]
      refine A7 (Qb (Z 1 J (Ad J J (by omega) (Zc 1 J ⟨i+1,sb J,?_,?_⟩))));exact ⟨hC,hBl,hBt,hRo,by rw [any_succ,hany,hat];rfl,hin⟩;show B9 t - (i+1)<B9 t - i;omega
    ·try simp at h2
     exfalso;omega
   ·try simp at h1
    have hii:i=B9 t:=by omega
    subst hii;exact Qk J (Qk J (Qk J (Qk J (Zc 1 J (E4 J (Xb (Qd (Zc 1 J (A6 (B4 J J ⟨H5 hany.symm,hC⟩))))))))))
def RAuto (F:Nat→Prop) (w:World) (t:R8) (cs:List Value):Prop:=∃ As cS pf pl bt bs,cs=[.slice As (P7 t).length cS,.int .i64 (O1 t),.slice (some ⟨pf,0,none⟩) (B9 t) (B9 t),.slice (some ⟨pl,0,none⟩) (B9 t) (B9 t),.slice (some ⟨bt,0,none⟩) (B9 t) (B9 t)]∧Rd F w 4 As (P7 t).length (F5 (P7 t))∧F pf∧Blk w pf (I8 (J2 t 0 (B9 t) false)) 3∧F pl∧Blk w pl (I8 (J2 t 0 (B9 t) true)) 3∧F bt∧Blk w bt (X2 (B9 t) bs) 24∧RowsB F w (B9 t) bs (V2 t)
theorem RAuto.q {F:Nat→Prop} {w w':World} {t:R8} {cs:List Value} {S:List Nat} (h:RAuto F w t cs) (c:Chg S w w') (hS:∀ b∈S,¬ F b):RAuto F w' t cs:=by
 obtain ⟨As,cS,pf,pl,bt,bs,h1,h2,h3,h4,h5,h6,h7,h8,h9⟩:=h;exact ⟨As,cS,pf,pl,bt,bs,h1,h2.q c hS,h3,h4.q c (fun hm=>hS _ hm h3),h5,h6.q c (fun hm=>hS _ hm h5),h7,h8.q c (fun hm=>hS _ hm h7),h9.q c hS⟩
theorem RAuto.mono {F F':Nat→Prop} {w:World} {t:R8} {cs:List Value} (h:RAuto F w t cs) (hF:∀ b,F b→b<w.heap.size→F' b):RAuto F' w t cs:=by
 obtain ⟨As,cS,pf,pl,bt,bs,h1,h2,h3,h4,h5,h6,h7,h8,h9⟩:=h;exact ⟨As,cS,pf,pl,bt,bs,h1,h2.mono hF,hF _ h3 h4.lt,h4,hF _ h5 h6.lt,h6,hF _ h7 h8.lt,h8,h9.mono hF⟩
theorem RAuto.one1 {F:Nat→Prop} {w:World} {t:R8} {cs:List Value} (h:RAuto F w t cs):cs.all Value.oneCell'=true:=by
 obtain ⟨As,cS,pf,pl,bt,bs,rfl,_⟩:=h
 rfl
theorem rauto_c (t:R8) (hg:G8 t) (hn:n8s t≤100000) (cs:List Value) (F:Nat→Prop) (w:World) (hF:∀ x,F x→x<w.heap.size) (hN:N8 F w t cs):Calls P 38 #[.agg cs.toArray] w (Ret fun u w'=>Chg [] w w'∧∃ cs',u= .agg cs'.toArray∧RAuto (FR w.heap.size w'.heap.size []) w' t cs'):=by
 have hC:=A8 [] w;have hone:=hN.one1;obtain ⟨a0,a1,a2,a3,a4,a5,a6,rfl⟩:=hN.cells;refine D4 Tryz.func38 J J (Qd (B5 J (E1 J J) ?_));intro b1 w1 hb1 hs1 hx1 hB1;refine B5 J (B8 Ds0 J) ?_;intro b2 w2 hb2 hs2 hx2 hB2;refine Qc (Qa (C8 (S:=[]) 9 [(0,0),(0,2),(0,4),(0,6),(0,8),(1,1),(1,3),(1,5),(1,7),(2,9),(2,10),(2,11)] mo (by kernel_rfl) ?_));intro w3 hx3 hh3;have hN:=hN.u ((hx1.s0 hx2).s0 hx3);have hB1:=hB1.u (hx2.s0 hx3);have hCS3:=A8 ([]) w3;refine D6 J (C1 M9 J ‹_› (by simp;done) J J) ?_;refine D6 J (C1 M9 J ‹_› (by simp;done) J J) ?_;refine D6 J (C1 M9 J ‹_› (by simp;done) J J) ?_;refine D6 J (C1 M9 J ‹_› (by simp;done) J J) ?_;refine D6 J (C1 M9 J ‹_› (by simp;done) J J) ?_;refine C5 J (C3 fb68 J) (Du3 t hn _ F _ (fun z hz=>by have:=hF z hz;omega) hN) ?_;rintro _ w4 ⟨hx4,As,cS,rfl,hrS⟩;have hz4:=hx4.size;have hN:=hN.u hx4;have hCS3:=hCS3.s0 hx4;refine ⟨hCS3,?_⟩;have hrS:=hrS.mono (F':=FR (b2+1) w4.heap.size []) (fun z h _=>⟨by have:=h.1;omega,h.2.1,by simp⟩);refine C5 J (C3 fb69 J) (Cs4 t hg _ F _ (fun z hz=>by have:=hF z hz;omega) hN) ?_;rintro _ w5 ⟨rfl,hx5⟩;have hz5:=hx5.size;have hN:=hN.u hx5;have hCS3:=hCS3.s0 hx5;refine ⟨hCS3,?_⟩;refine C5 J (C3 fb70 J) (Cj0 t hg hn _ F _ (fun z hz=>by have:=hF z hz;omega) hN) ?_;rintro _ w6 ⟨hx6,pf,rfl,hpf2,hBf⟩;have hN:=hN.u hx6;have hCS3:=hCS3.s0 hx6;refine ⟨hCS3,?_⟩
 try have hlBf:=hBf.lt
 refine C5 J (C3 fb71 J) (Db9 t hg hn _ F _ (fun z hz=>by have:=hF z hz;omega) hN) ?_;rintro _ w7 ⟨hx7,pl,rfl,hpl2,hBl⟩;have hN:=hN.u hx7;have hCS3:=hCS3.s0 hx7;refine ⟨hCS3,?_⟩
 try have hlBl:=hBl.lt
 refine Ca fb72 J (Ci9 t hg hn _ F _ (fun z hz=>by have:=hF z hz;omega) hN) ?_;rintro _ w8 ⟨hx8,bt,bs,rfl,hbt2,hBt,hRo⟩;have hB2:=hB2.u (((((hx3.s0 hx4).s0 hx5).s0 hx6).s0 hx7).s0 hx8);have hrS:=hrS.u (((hx5.s0 hx6).s0 hx7).s0 hx8);have hRo:=hRo.mono (G':=FR (b2+1) w8.heap.size []) (fun z h hzl=>⟨by omega,hzl,by simp⟩);refine C9 J (B1 Ds0 pl27 J (by rfl)) ?_;refine Pe Dj9 J ‹_› J J ?_;intro w9 hs9 hx9 hB2;have hC:=hC.step ((((((((hx1.j hx2).j hx3).j hx4).j hx5).j hx6).j hx7).j hx8).j hx9) (by simp<;>omega);have hrS:=hrS.q hx9 (by intro x hx hf;have hx:=Ek3.1 hx;have h1:=hf.1;have h2:=hf.2.1;omega);have hBf:=hBf.q ((hx7.j hx8).j hx9) (by simp<;>omega);have hBl:=hBl.q (hx8.j hx9) (by simp<;>omega);have hBt:=hBt.q hx9 (by simp;omega);have hRo:=hRo.q hx9 (by intro x hx hf;have hx:=Ek3.1 hx;have h1:=hf.1;have h2:=hf.2.1;omega);refine Qc (A6 (D5 J J (A5 Cq4 ‹_› J J) ?_));have hl1:=hBf.lt;have hl2:=hBl.lt;have hl3:=hBt.lt;exact ⟨hC,_,rfl,As,cS,pf,pl,bt,bs,rfl,hrS.mono fun z h hzl=>⟨by have:=h.1;omega,hzl,by simp⟩,⟨by omega,by omega,by simp⟩,hBf,⟨by omega,by omega,by simp⟩,hBl,⟨by omega,by omega,by simp⟩,hBt,hRo.mono fun z h hzl=>⟨by have:=h.1;omega,hzl,by simp⟩⟩
theorem Dp8 (L:List Nat) (p:Ps) (c:Nat):(Ak4 L p c).1.set=0:=by
 unfold Ak4;dsimp only;generalize (if c=43 then ((1,-1,p):Int × Int × Ps) else if c=63 then (0,1,p) else if c=123 then S6 L p else (0,-1,p))=m
 split<;>rfl
theorem Do0 (L:List Nat) (p:Ps) (n:Nat):(Aa8 L p n).1.set=0:=by
 unfold Aa8
 split
 ·rfl
 split<;>rfl
theorem oneP_set (s:ByteArray) (p:Ps):L4 (Ag7 (B6 s) p).1.set:=by
 have hc:H7 (B6 s) p<256:=Ad9 s p;unfold Ag7;dsimp only
 by_cases h1:H7 (B6 s) p=92
 ·rw [Ek1 h1];exact Bv8 s p
 rw [Ek0 h1]
 by_cases h2:H7 (B6 s) p=91
 ·rw [Ek1 h2];exact Eg6 s p
 rw [Ek0 h2]
 by_cases h3:H7 (B6 s) p=40
 ·rw [Ek1 h3,Do0];exact P8
 rw [Ek0 h3]
 by_cases h4:H7 (B6 s) p=41
 ·rw [Ek1 h4];exact P8
 rw [Ek0 h4]
 by_cases h5:H7 (B6 s) p=124
 ·rw [Ek1 h5];exact P8
 rw [Ek0 h5]
 by_cases h6:H7 (B6 s) p=46
 ·rw [Ek1 h6];exact Bi2 _
 rw [Ek0 h6]
 by_cases h7:H7 (B6 s) p=42∨H7 (B6 s) p=43∨H7 (B6 s) p=63∨H7 (B6 s) p=123
 ·rw [Ek1 h7,Dp8];exact P8
 rw [Ek0 h7]
 split
 ·exact Bd8 hc
 split
 ·exact Bd8 hc
 ·exact Bd8 hc
def Cq6 (T:List Tok):Prop:=∀ t∈T,L4 t.set
theorem Db6 (s:ByteArray):∀ (f:Nat) (p:Ps) (l:List Tok),Cq6 l→Cq6 (Ar6 (B6 s) f p l).1
 |0,p,l,h=>by unfold Ar6;exact h
 |f+1,p,l,h=>by
  unfold Ar6
  split
  ·dsimp only
   split
   ·intro t ht;cases ht
   ·refine Db6 s f _ _ fun t ht=>?_
    rcases En7.1 ht with h1|h1
    ·exact h t h1
    ·rw [Ek3] at h1;subst h1;exact oneP_set s p
  ·exact h
theorem scanP_ok (s:ByteArray):Cq6 (R7 (B6 s)).1:=by
 unfold R7
 split
 ·intro t ht;cases ht
 ·exact Db6 s _ _ _ (fun t ht=>by cases ht)
theorem SynsOk.snoc {l:List Syn} {t:Syn} (h:SynsOk l) (ht:SynOk t):SynsOk (l++[t]):=by
 induction l with
 |nil=>exact ⟨ht,trivial⟩
 |cons x r ih=>exact ⟨h.1,ih h.2⟩
theorem Bw0 (l:List Syn) (t:Syn):U1 (l++[t])=max (U1 l) (Q8 t):=by
 induction l with
 |nil=>simp [U1]
 |cons x r ih=>simp only [Ek7,U1,ih];omega
theorem Af8:SynOk default:=⟨P8,by decide,trivial⟩
theorem Cv5 {k:Int} {l:List Syn} {d:Nat} (hk:k=4∨k=5) (h:SynsOk l) (hd:U1 l≤d) (hl:l.length≤2000000):SynOk (Ay1 k l)∧Q8 (Ay1 k l)≤d:=by
 match l,h,hd,hl with
 |[],h,hd,hl=>exact ⟨⟨P8,hl,h⟩,by show Q8 (.node k 0 0 0 false [] _ _)≤d;rw [Q8,Ek0 (by omega)];exact hd⟩
 |[x],h,hd,hl=>exact ⟨h.1,by show Q8 x≤d;simp [U1] at hd;exact hd⟩
 |x::y::r,h,hd,hl=>exact ⟨⟨P8,hl,h⟩,by show Q8 (.node k 0 0 0 false (x::y::r) _ _)≤d;rw [Q8,Ek0 (by omega)];exact hd⟩
theorem Dd6 (a b:Int):SynOk (.node 0 0 0 0 false [] a b)∧Q8 (.node 0 0 0 0 false [] a b)=0:=⟨⟨P8,by decide,trivial⟩,rfl⟩
theorem Cp4 {p:Pp} {a:Int} {l:List Syn} {d:Nat} (h:SynsOk l) (hd:U1 l≤d) (hl:l.length≤2000000):SynOk (W8 p a l)∧Q8 (W8 p a l)≤d:=by
 unfold W8
 split
 ·exact ⟨(Dd6 a a).1,by rw [(Dd6 a a).2];exact El0 _⟩
 ·exact Cv5 (.inl J) h hd hl
structure PG (T:List Tok) (en f:Nat):Prop where
 alt:∀ p,SynOk (Y3 T en f p).1∧Q8 (Y3 T en f p).1≤f
 altL:∀ p l d,SynsOk l→U1 l≤d→f≤d→l.length+f≤2000000→SynOk (altL T en f p l).1∧Q8 (altL T en f p l).1≤d
 cat:∀ p,SynOk (Aq9 T en f p).1∧Q8 (Aq9 T en f p).1≤f
 catL:∀ p a l d,SynsOk l→U1 l≤d→f≤d→l.length+f≤2000000→SynOk (catL T en f p a l).1∧Q8 (catL T en f p a l).1≤d
 item:∀ p x,L4 x.set→SynOk (Y0 T en f p x).1∧Q8 (Y0 T en f p x).1≤f
 group:∀ p x,SynOk (M6 T en f p x).1∧Q8 (M6 T en f p x).1≤f
theorem pkQ_ok {T:List Tok} (hT:Cq6 T) (en:Nat) (p:Pp):L4 (pkQ T en p).set:=by
 unfold pkQ
 split
 ·rename_i h
  exact hT _ (by rw [Ek2,Ek4 h];exact List.getElem_mem h)
 ·exact P8
theorem Bj7 (T:List Tok) (en:Nat) (hT:Cq6 T):∀ f,f≤1000000→PG T en f
 |0,_=>by
  have hz:SynOk default∧Q8 default≤0:=⟨Af8,El1 _⟩
  refine ⟨fun p=>?_,fun p l d h hd hf hl=>?_,fun p=>?_,fun p a l d h hd hf hl=>?_,fun p x hx=>?_,fun p x=>?_⟩
  ·unfold Y3;exact hz
  ·unfold altL;exact Cv5 (.inr J) h hd (by omega)
  ·unfold Aq9;exact hz
  ·unfold catL;exact Cp4 h hd (by omega)
  ·unfold Y0;exact hz
  ·unfold M6;exact hz
 |f+1,hf1=>by
  have ih:=Bj7 T en hT f (by omega)
  refine ⟨fun p=>?_,fun p l d h hd hf hl=>?_,fun p=>?_,fun p a l d h hd hf hl=>?_,fun p x hx=>?_,fun p x=>?_⟩
  ·unfold Y3;obtain ⟨h1,h2⟩:=ih.cat p;obtain ⟨h3,h4⟩:=ih.altL (Aq9 T en f p).2 [(Aq9 T en f p).1] f ⟨h1,trivial⟩ (by simp [U1];exact h2) (El1 _) (by simp;omega);exact ⟨h3,Nat.le_succ_of_le h4⟩
  ·unfold altL
   split
   ·obtain ⟨h1,h2⟩:=ih.cat p.adv;exact ih.altL _ _ d (h.snoc h1) (by rw [Bw0];omega) (by omega) (by rw [Ek5];simp;omega)
   ·exact Cv5 (.inr J) h hd (by omega)
  ·unfold Aq9;obtain ⟨h1,h2⟩:=ih.catL p (pkQ T en p).src [] f trivial (El0 _) (El1 _) (by simp;omega);exact ⟨h1,Nat.le_succ_of_le h2⟩
  ·unfold catL
   split
   ·obtain ⟨h1,h2⟩:=ih.item p (pkQ T en p) (pkQ_ok hT en p);exact ih.catL _ _ _ d (h.snoc h1) (by rw [Bw0];omega) (by omega) (by rw [Ek5];simp;omega)
   ·exact Cp4 h hd (by omega)
  ·unfold Y0
   have hm:SynOk (if x.kind=0 then ((.node 1 x.set 0 0 false [] x.src x.to,p.adv):Syn × Pp) else if x.kind=1∨x.kind=2 then M6 T en f p x else (default,p.fail x.src 4)).1∧Q8 (if x.kind=0 then ((.node 1 x.set 0 0 false [] x.src x.to,p.adv):Syn × Pp) else if x.kind=1∨x.kind=2 then M6 T en f p x else (default,p.fail x.src 4)).1≤f:=by
    split
    ·exact ⟨⟨hx,by decide,trivial⟩,by show Q8 (.node 1 x.set 0 0 false [] x.src x.to)≤f;rw [Q8,Ek0 (by omega),U1];omega⟩
    ·split
     ·exact ih.group p x
     ·exact ⟨Af8,El0 _⟩
   generalize (if x.kind=0 then ((.node 1 x.set 0 0 false [] x.src x.to,p.adv):Syn × Pp) else if x.kind=1∨x.kind=2 then M6 T en f p x else (default,p.fail x.src 4))=m at hm;dsimp only
   split
   ·exact ⟨hm.1,Nat.le_succ_of_le hm.2⟩
   ·refine ⟨⟨P8,by simp,hm.1,trivial⟩,?_⟩;rw [Q8,Ek0 (by omega),U1,U1];have:=hm.2;omega
  ·unfold M6
   split
   ·exact ⟨Af8,El0 _⟩
   ·obtain ⟨h1,h2⟩:=ih.alt { p with deep:=p.deep+1,next:=p.next+1 };dsimp only;generalize Y3 T en f { p with deep:=p.deep+1,next:=p.next+1 }=c at*
    split
    ·exact ⟨Af8,El0 _⟩
    split
    ·exact ⟨Af8,El0 _⟩
    ·refine ⟨⟨P8,by simp,h1,trivial⟩,?_⟩;rw [Q8];have:U1 [c.1]≤f:=by simp [U1];exact h2
     have e:∀ (P:Prop) [Decidable P],(if P then U1 [c.1]+1 else U1 [c.1])≤f+1:=fun P _=>by split<;>omega
     exact e _
theorem Dl8 (s:ByteArray) (hs:s.size≤1000) (h:(M5 (B6 s)).2.2=0):SynOk (M5 (B6 s)).1∧Q8 (M5 (B6 s)).1≤100000000:=by
 have hlen:(R7 (B6 s)).1.length≤1000:=by
  have:=E5 s;unfold R7
  split
  ·exact El0 _
  ·exact En6 (Bi3 (B6 s) _ _ _ (El1 _) (El0 _)) (by omega)
 have hT:=scanP_ok s;unfold M5 at h ⊢;dsimp only at h ⊢;generalize R7 (B6 s)=t at*
 split at h
 ·rename_i h1;exact absurd h h1
 rename_i h1
 rw [Ek0 h1];unfold Ck5 at h ⊢;dsimp only at h ⊢;obtain ⟨h2,h3⟩:=(Bj7 t.1 (B6 s).length hT (5*t.1.length+5) (by omega)).alt ⟨0,0,0,0⟩;generalize (if okQ t.1 (Y3 t.1 (B6 s).length (5*t.1.length+5) ⟨0,0,0,0⟩).2 then (Y3 t.1 (B6 s).length (5*t.1.length+5) ⟨0,0,0,0⟩).2.fail (pkQ t.1 (B6 s).length (Y3 t.1 (B6 s).length (5*t.1.length+5) ⟨0,0,0,0⟩).2).src 4 else (Y3 t.1 (B6 s).length (5*t.1.length+5) ⟨0,0,0,0⟩).2)=q at*
 split at h
 ·rename_i h4;exact absurd h h4
 rename_i h4
 rw [Ek0 h4];exact ⟨h2,En6 h3 (by omega)⟩
def By2:List Int→Int
 |[]=>0
 |x::r=>max x 0+By2 r
theorem Ah6:∀ l,0≤By2 l
 |[]=>Int.le_refl _
 |x::r=>by have:=Ah6 r;rw [By2];omega
theorem Bv3:∀ (l:List Int) (a:Int),0≤a→a≤9223372036854775807→l.foldl W1 a=min 9223372036854775807 (a+By2 l)
 |[],a,h0,h1=>by rw [Eq8,By2];omega
 |x::r,a,h0,h1=>by
  have hs:=M8 a x;have:=Ah6 r;rw [Eq1,Bv3 r _ hs.1 hs.2,By2];unfold W1;omega
theorem Ah7 (l:List Int):Av6 l=min 9223372036854775807 (By2 l):=by
 unfold Av6;rw [Bv3 l 0 (by omega) (by omega),Int.zero_add]
def As3 (c:Cor):Nat:=(L6 c).length
def Ad3:List Cor→Nat
 |[]=>0
 |c::r=>As3 c+Ad3 r
theorem Ay3 (j:Cor→Cor→Cor) (hj:∀ a b,As3 (j a b)=As3 a+As3 b):∀ l,As3 (Af0 j l)=Ad3 l
 |[]=>rfl
 |[x]=>by rw [Af0,Ad3,Ad3,Ev1]
 |x::y::r=>by
  have e:Ad3 (x::y::r)=As3 x+Ad3 (y::r):=rfl;rw [Af0,hj,Ay3 j hj (y::r),e]
theorem Ai7 (a b:Cor):As3 (.cat a b)=As3 a+As3 b:=by unfold As3;rw [L6,Ek5]
theorem Cb3 (a b:Cor):As3 (.alt a b)=As3 a+As3 b:=by unfold As3;rw [L6,Ek5]
theorem Ea8 (lz:Bool) (a:Cor):As3 (.star lz a)=As3 a:=by unfold As3;rw [L6]
theorem Be3:∀ a b,Ad3 (a++b)=Ad3 a+Ad3 b
 |[],b=>by rw [Ek8,Ad3,El6]
 |c::r,b=>by rw [Ek7,Ad3,Ad3,Be3 r b,Em3]
theorem Ea6 (n:Nat) (c:Cor):Ad3 (List.replicate n c)=n*As3 c:=by
 induction n with
 |zero=>simp [Ad3]
 |succ n ih=>rw [Es5,Ad3,ih,Es8];omega
theorem Bl2 (n:Cor) (lz:Bool):As3 (Bc3 n lz)=As3 n:=by
 unfold Bc3
 split
 ·rw [Cb3];show 0+_=_;omega
 ·rw [Cb3];show _+0=_;omega
theorem Be4 (r:Cor) (lz:Bool):∀ k,As3 (W7 r lz k)=(k+1)*As3 r
 |0=>by rw [W7,Bl2];omega
 |k+1=>by rw [W7,Bl2,Ai7,Be4 r lz k,Es8 (k+1)];omega
theorem Cv6 (mn mx:Int) (lz:Bool) (r:Cor):As3 (Am9 mn mx lz r)=mn.toNat*As3 r+(if mx= -1 then As3 r else if mn<mx then (mx - mn).toNat*As3 r else 0):=by
 unfold Am9;rw [Ay3 _ Ai7,Be3,Ea6]
 congr 1
 split
 ·rw [Ad3,Ad3,Ea8];omega
 split
 ·rw [Ad3,Ad3,Be4,show (mx - mn).toNat - 1+1=(mx - mn).toNat by omega];omega
 ·rfl
theorem Cl2 {a b:Int} (ha:1≤a) (hb:0≤b) (h:min 9223372036854775807 (a*b)≤5000):a*b≤5000∧b≤a*b:=by
 have h1:a*b≤5000:=by omega
 have h2:1*b≤a*b:=Int.mul_le_mul_of_nonneg_right ha hb;exact ⟨h1,by omega⟩
theorem Ct7 {mn mx size:Int} {n:Nat} (h0:0≤mn) (h1:mn≤1000) (h2:mx= -1∨(mn≤mx∧mx≤1000)) (hs:0≤size∧size≤9223372036854775807) (hn:size≤5000→(n:Int)≤size) (h:U3 mn mx size≤5000):
  ((mn.toNat*n+(if mx= -1 then n else if mn<mx then (mx - mn).toNat*n else 0):Nat):Int)≤U3 mn mx size:=by
 unfold U3 at h ⊢
 by_cases h3:(Ak6 mn mx size).2=0
 ·rw [Ek1 h3];unfold Ak6 at h3
  have hm:mn=0∧mx=0:=by
   split at h3
   ·dsimp only at h3;omega
   split at h3
   ·dsimp only at h3;omega
   ·dsimp only at h3;omega
  rw [hm.1,hm.2];simp
 rw [Ek0 h3] at h ⊢;rw [Ah7] at h ⊢;have hsp:=Aw1 mn size h0 (by omega);have hmul:0≤mn*size:=Int.mul_nonneg h0 hs.1;have hsm:Ac2 mn size=min 9223372036854775807 (mn*size):=by unfold Ac2;rw [Int.max_eq_left h0,Int.max_eq_left hs.1]
 have hmn:((mn.toNat*n:Nat):Int)=mn*(n:Int):=by rw [Int.natCast_mul,Int.toNat_of_nonneg h0]
 have hpart:Ac2 mn size≤5000→mn*(n:Int)≤Ac2 mn size:=fun hle=>by
  rw [hsm] at hle ⊢
  by_cases hz:mn=0
  ·rw [hz];omega
  ·obtain ⟨ha,hb⟩:=Cl2 (a:=mn) (b:=size) (by omega) hs.1 hle;have:=Int.mul_le_mul_of_nonneg_left (hn (by omega)) h0;omega
 rw [hsp] at h ⊢;simp only [By2] at h ⊢;unfold Ak6 at h h3 ⊢
 by_cases hx:mx= -1
 ·rw [Ek1 hx] at h h3 ⊢;rw [Ek1 hx];dsimp only at h h3 ⊢;rw [Ah7] at h ⊢;simp only [By2] at h ⊢;have:=hpart (by omega);have:=hn (by omega);rw [Int.natCast_add,hmn];omega
 rw [Ek0 hx] at h h3 ⊢;rw [Ek0 hx]
 by_cases hy:0<mx - mn
 ·rw [Ek1 hy] at h h3 ⊢;rw [Ek1 (by omega)];dsimp only at h h3 ⊢;have hs2:Av6 [size,2]=min 9223372036854775807 (size+2):=by rw [Ah7];simp only [By2];omega
  rw [hs2,Aw1 _ _ (by omega) (by omega)] at h ⊢;have hsm2:Ac2 (mx - mn) (min 9223372036854775807 (size+2))=min 9223372036854775807 ((mx - mn)*(min 9223372036854775807 (size+2))):=by unfold Ac2;rw [Int.max_eq_left (by omega),Int.max_eq_left (by omega)]
  rw [Ah7] at h ⊢;simp only [By2] at h ⊢;rw [hsm2] at h ⊢;have hq:min 9223372036854775807 ((mx - mn)*(min 9223372036854775807 (size+2)))≤5000:=by omega
  obtain ⟨ha,hb⟩:=Cl2 (a:=mx - mn) (by omega) (by omega) hq;have hmin:min 9223372036854775807 (size+2)=size+2:=by omega
  rw [hmin] at ha hb h ⊢;have h5:=hpart (by omega);have h6:=hn (by omega);have h7:(mx - mn)*(n:Int)≤(mx - mn)*(size+2):=Int.mul_le_mul_of_nonneg_left (by omega) (by omega);have h8:0≤(mx - mn)*(n:Int):=Int.mul_nonneg (by omega) (by omega);have e:(((mx - mn).toNat*n:Nat):Int)=(mx - mn)*(n:Int):=by rw [Int.natCast_mul,Int.toNat_of_nonneg (by omega)]
  rw [Int.natCast_add,hmn,e];omega
 ·rw [Ek0 hy] at h h3 ⊢;rw [Ek0 (by omega)];dsimp only at h h3 ⊢;have:=hpart (by omega);rw [Ev1,hmn];omega
theorem Cn3 {l:List Int} {n:Nat} (hl:l.length≠0) (hr:∀ x∈l,0≤x∧x≤9223372036854775807) (h:Ac5 l≤5000) (hn:By2 l≤5000→(n:Int)≤By2 l):(n:Int)≤Ac5 l:=by
 unfold Ac5 at h ⊢;rw [Ek0 hl] at h ⊢;rw [Ah7,Ah7] at h ⊢;have:=Ah6 l;simp only [By2] at h ⊢;have:=hn (by omega);omega
theorem Eb3 {k:Int} {s:Nat} {mn mx:Int} {lz:Bool} {l:List Syn} {a b:Int} (h:Ad4 (.node k s mn mx lz l a b)=true) (hk:k=4∨k=5):l.length≠0:=by
 rcases hk with rfl|rfl
 ·have:(decide (1<l.length) && notK [4,0,5] l)=true:=h;simp only [Ek6,Em0] at this;omega
 ·have:(decide (1<l.length) && notK [5] l)=true:=h;simp only [Ek6,Em0] at this;omega
theorem kids_6 {k:Int} {s:Nat} {mn mx:Int} {lz:Bool} {l:List Syn} {a b:Int} (h:Ad4 (.node k s mn mx lz l a b)=true) (hk:k=6):S0 (.node k s mn mx lz l a b)=true:=by
 subst hk;have h2:(decide (l.length=1) && (S0 (.node 6 s mn mx lz l a b) && (decide ((l.getD 0 default).kind=1)||Ae2 (l.getD 0 default))))=true:=h;simp only [Ek6] at h2;exact h2.2.1
mutual
theorem By7:∀ t:Syn,V1 t=true→T0 t≤5000→((As3 (Ah1 t):Nat):Int)≤T0 t
 | .node k s mn mx lz l a b,hf,hm=>by
  rw [V1] at hf;simp only [Ek6] at hf;obtain ⟨hf1,hf2⟩:=hf
  have hk:Ad4 (.node k s mn mx lz l a b)=true:=by
   unfold Au2 at hf1;simp only [Ek6] at hf1;exact hf1.2.2
  have hL:=Db4 l hf2;have hH:=setsH_le l hf2;have hlen:=An9 l;have hrg:=Ae9 l;rw [T0] at hm ⊢;rw [Ah1]
  by_cases h1:k=1
  ·rw [Ek1 h1,Ek0 (by omega),Ek0 (by omega),Ek0 (by omega)];show ((1:Nat):Int)≤1;omega
  rw [Ek0 h1]
  by_cases h23:k=2∨k=3
  ·rw [Ek1 h23] at hm ⊢;rw [Ek1 h23];exact hH hm
  rw [Ek0 h23] at hm ⊢;rw [Ek0 h23]
  by_cases h4:k=4
  ·rw [Ek1 h4,Ay3 _ Ai7];rw [Ek1 (.inl h4)] at hm ⊢;exact Cn3 (by rw [hlen];exact Eb3 hk (.inl h4)) hrg hm hL
  rw [Ek0 h4]
  by_cases h5:k=5
  ·rw [Ek1 h5,Ay3 _ Cb3];rw [Ek1 (.inr h5)] at hm ⊢;exact Cn3 (by rw [hlen];exact Eb3 hk (.inr h5)) hrg hm hL
  rw [Ek0 h5];rw [Ek0 (show ¬ (k=4∨k=5) by omega)] at hm ⊢
  by_cases h6:k=6
  ·rw [Ek1 h6] at hm ⊢;rw [Ek1 h6,Cv6];have hk2:=kids_6 hk h6;unfold S0 at hk2;simp only [Ek6,Bool.or_eq_true] at hk2
   have hrh:0≤(H2 l).headD 0∧(H2 l).headD 0≤9223372036854775807:=by
    match l,hrg with
    |[],_=>exact ⟨by decide,by decide⟩
    |x::r,hrg=>exact hrg _ (by rw [H2];exact Em1 ..)
   exact Ct7 (Eo7 hk2.1) (Eo7 hk2.2.1) (hk2.2.2.imp Eo7 (fun h=>⟨Eo7 h.1,Eo7 h.2⟩)) hrh hH hm
  ·rw [Ek0 h6,Ek0 h6];show ((0:Nat):Int)≤1;omega
theorem Db4:∀ l:List Syn,T9 l=true→By2 (H2 l)≤5000→((Ad3 (N2 l):Nat):Int)≤By2 (H2 l)
 |[],_,_=>by rw [N2,Ad3,H2,By2];omega
 |t::r,hf,hm=>by
  rw [T9] at hf;simp only [Ek6] at hf;rw [H2,By2] at hm ⊢;have h0:=Ah6 (H2 r);have h1:=By7 t hf.1 (by omega);have h2:=Db4 r hf.2 (by omega);rw [N2,Ad3];omega
theorem setsH_le:∀ l:List Syn,T9 l=true→(H2 l).headD 0≤5000→((As3 ((N2 l).headD .empty):Nat):Int)≤(H2 l).headD 0
 |[],_,_=>by rw [N2,H2];exact Int.le_refl _
 |t::r,hf,hm=>by
  rw [T9] at hf;simp only [Ek6] at hf;rw [H2,List.headD_cons] at hm ⊢;rw [N2,List.headD_cons];exact By7 t hf.1 hm
end
theorem Ea7 (r:Cor) (m:Int):As3 (Ch2 r m)≤As3 r+2:=by
 unfold Ch2;have hr:As3 Ct6=1:=rfl
 split
 ·rw [Ai7,hr];omega
 split
 ·rw [Ai7,hr];omega
 split
 ·rw [Ai7,Ai7,hr];omega
 ·omega
theorem Dp9 (L:List Nat) (m:Int) (h:(S4 L m).2.2=0):(L6 (S4 L m).1).length≤1000000:=by
 unfold S4 at h ⊢
 split at h
 ·cases h
 rename_i h1
 rw [Ek0 h1]
 split at h
 ·rename_i h2;exact absurd h h2
 rename_i h2
 rw [Ek0 h2];dsimp only at h ⊢;unfold Bx1 at h
 split at h
 ·cases h
 rename_i h3
 split at h
 ·cases h
 rename_i h4
 have h3':Bi9 (M5 L).1 m=true:=by simpa using h3
 unfold Bh4 at h4;rw [Ek1 h3',Ah7] at h4;simp only [By2] at h4;have hr:=Y7 (M5 L).1;have:=By7 (M5 L).1 (Bi8 h3').1 (by omega);have:=Ea7 (Ah1 (M5 L).1) m;show As3 _≤_;omega
theorem wnew_nil (w:World):Calls P 62 #[.pointer none] w (Ret fun u w'=>u= .tuple #[.pointer none,.int .i64 1]∧Chg [] w w'):=by
 have hC:=A8 [] w
 refine D4 Tryz.func62 J J (Qd (Zc 2 J (Qa (B2 (Qd (Z 1 J (C9 J (I0 Tryz.underlying67 J J) (Zc 1 J (A4 J (fun h0=>?_) (fun h0=>?_))))))))))
 ·try simp at h0
  exact Qd (Zc 2 J (A6 (J1 J J J ⟨rfl,hC⟩)))
 ·try simp at h0
  all_goals simp at h0
theorem anew_nil (w:World):Calls P 37 #[.pointer none] w (Ret fun u w'=>u= .tuple #[.pointer none,.int .i64 1]∧Chg [] w w'):=by
 have hC:=A8 [] w;refine D4 Tryz.func37 J J (Qd (Zc 2 J (Qd (Z 1 J (Ca fb62 J (wnew_nil _) ?_)))));rintro _ w1 ⟨rfl,hx1⟩;have hC:=hC.s0 hx1;exact Zc 5 J (Qa (Qd (Zc 2 J (E3 (rfl) (Qd (Zc 3 J (A6 (J1 J J J ⟨rfl,hC⟩))))))))
def Cr8 (L:List Nat) (m:Int):Bool:=decide (L.length≤40) && decide ((I6 L m).2.2=0) && decide (B9 (I6 L m).1≤10) && decide (n8s (I6 L m).1≤80) && !Cm8 (I6 L m).1
theorem Dv8 (s:ByteArray) (m:Int) (w:World) (hL:Laid w):Calls P 36 #[.string s,.int .i64 m] w (Ret fun u w'=>Chg [] w w'∧(Cr8 (B6 s) m=false→∃ cs:List Value,u= .tuple #[.pointer none,.agg cs.toArray,.int .i64 1]∧cs.all Value.oneCell'=true∧cs.length=7)∧(Cr8 (B6 s) m=true→∃ (cs:List Value) (ad:Option Addr),u= .tuple #[.pointer ad,.agg cs.toArray,.int .i64 0]∧N8 (FR w.heap.size w'.heap.size []) w' (I6 (B6 s) m).1 cs∧((S4 (B6 s) m).2.2=0→IsCor (FR w.heap.size w'.heap.size []) w' (S4 (B6 s) m).1 (.pointer ad))∧((S4 (B6 s) m).2.2≠0→ad=none))):=by
 have hC:=A8 [] w;have hsl:=E5 s;have hlt:=R5 s
 try have hz4:=hL.sz
 refine D4 Tryz.func36 J J (Qd (Z 1 J (B5 J (B8 Ar2 J) ?_)));intro b1 w1 hb1 hs1 hx1 hB1;have hC:=hC.s0 hx1;have hL:=hL.u hx1
 refine Zc 1 J (Qa (Qd (Z 1 J (C9 J (E9 Tryz.underlying9 J) (Zc 1 J (A4 J (fun h1=>?_) (fun h1=>?_)))))))
 ·try simp at h1
  have hF:Cr8 (B6 s) m=false:=by unfold Cr8;rw [El3 (p:=(B6 s).length≤40) (by omega)];rfl
  refine Qd (C9 J (B1 Ar2 Dc7 J (by rfl)) ?_);refine Z 1 J (Pe Al7 J ‹_› J J ?_);intro w2 hs2 hx2 hB1;have hC:=hC.step hx2 (by simp;omega);refine Zc 1 J (A6 (H0 J J J (A5 M9 ‹_› J J) J ?_));exact ⟨hC,fun _=>⟨_,rfl,rfl,rfl⟩,fun h=>by rw [hF] at h;cases h⟩
 ·try simp at h1
  have hgood:=Aw9 (B6 s) m hlt (by omega);refine A7 (Qd (Z 2 J (Ca fb57 J (Dv3 s m (by omega) _) ?_)));rintro _ w3 ⟨hx3,cs,rfl,hn⟩;have hz3:=hx3.size;have hn:=hn.mono (F':=FR (b1+1) w3.heap.size []) (fun z h _=>⟨by have:=h.1;omega,h.2.1,by simp⟩);have hFdef:Cr8 (B6 s) m=(decide (s.size≤40) && decide ((I6 (B6 s) m).2.2=0) && decide (B9 (I6 (B6 s) m).1≤10) && decide (n8s (I6 (B6 s) m).1≤80) && !Cm8 (I6 (B6 s) m).1):=by unfold Cr8;rw [hsl]
  have hone:=hn.one1;generalize I6 (B6 s) m=x at*;obtain ⟨t,p,e⟩:=x;simp only [] at hFdef hn hgood;obtain ⟨a0,a1,a2,a3,a4,a5,a6,rfl⟩:=hn.cells;refine Z 4 J (B5 J (B8 Ar2 J) ?_);intro b4 w4 hb4 hs4 hx4 hB4;have hn:=hn.u hx4;refine Pb (cs':=[a0,a1,a2,a3,a4,a5,a6]) Al7 J J hB4 J J hone J J ?_;intro w5 hs5 hx5 hB4;have hC:=hC.step ((hx3.j hx4).j hx5) (by simp<;>omega);have hL:=hL.q ((hx3.j hx4).j hx5) (by simp<;>omega);have hB1:=hB1.q ((hx3.j hx4).j hx5) (by simp<;>omega);have hn:=hn.q hx5 (by intro x hx hf;have hx:=Ek3.1 hx;have h1:=hf.1;have h2:=hf.2.1;omega)
  refine Zc 2 J (Qa (Qd (Z 3 J (C0 (d:=26) J (fun g1=>?_) (fun g1=>?_)))))
  ·try simp at g1
   have hF:Cr8 (B6 s) m=false:=by rw [hFdef,El3 (p:=e=0) g1];simp
   refine Qk J (Qk J (Qk J (Z 2 J (Qk J (Qk J (Qk J (Z 2 J (Qk J (Qk J (Zc 1 J (E3 J (Qa (C8 (S:=[]) 2 [(0,0),(0,1),(2,2),(2,3)] mo (by kernel_rfl) ?_)))))))))))));intro w6 hx6 hh6;have hB1:=hB1.u hx6;have hB4:=hB4.u hx6;refine D6 J (C1 M9 J ‹_› (by simp;done) J J) ?_;refine Z 1 J (Pb (cs':=[a0,a1,a2,a3,a4,a5,a6]) Al7 J J hB1 J J hone J J ?_);intro w7 hs7 hx7 hB1;have hC:=hC.step (hx6.j hx7) (by simp<;>omega);refine Zc 1 J (A6 (H0 J J J (A5 M9 ‹_› J J) J ?_));exact ⟨hC,fun _=>⟨_,rfl,hone,rfl⟩,fun h=>by rw [hF] at h;cases h⟩
  ·try simp at g1
   have g1':e=0:=by simpa using g1
   obtain ⟨hg,hn8⟩:=hgood g1';refine Qu J (La M9 J ‹_› J J ?_);refine Qu J (Ca fb58 J (An4 t (by omega) _ _ _ (fun z hz=>by have:=hz.2.1;omega) hn) ?_);rintro _ w8 ⟨rfl,hx8⟩;have hz8:=hx8.size;have hC:=hC.s0 hx8;have hL:=hL.u hx8;have hB1:=hB1.u hx8;have hn:=hn.u hx8;have hB4:=hB4.u hx8
   refine Qu J (Z 3 J (C0 (d:=31) J (fun g2=>?_) (fun g2=>?_)))
   ·rw [cmpB_gtr] at g2;have hF:Cr8 (B6 s) m=false:=by rw [hFdef,El3 (p:=B9 t≤10) (by omega)];simp
    refine Qk J (Qk J (Qk J (Z 2 J (Qk J (Qk J (Zc 1 J (E3 J (Qa (C8 (S:=[]) 2 [(0,0),(0,1),(2,2),(2,3)] mo (by kernel_rfl) ?_)))))))));intro w9 hx9 hh9;have hB1:=hB1.u hx9;have hB4:=hB4.u hx9;refine D6 J (C1 M9 J ‹_› (by simp;done) J J) ?_;refine Z 1 J (Pb (cs':=[a0,a1,a2,a3,a4,a5,a6]) Al7 J J hB1 J J hone J J ?_);intro w10 hs10 hx10 hB1;have hC:=hC.step (hx9.j hx10) (by simp<;>omega);refine Zc 1 J (A6 (H0 J J J (A5 M9 ‹_› J J) J ?_));exact ⟨hC,fun _=>⟨_,rfl,hone,rfl⟩,fun h=>by rw [hF] at h;cases h⟩
   ·rw [cmpB_gtrF] at g2;refine Qu J (La M9 J ‹_› J J ?_);refine Qu J (Ca fb59 J (Dh5 t (by omega) _ _ _ (fun z hz=>by have:=hz.2.1;omega) hn) ?_);rintro _ w11 ⟨rfl,hx11⟩;have hz11:=hx11.size;have hC:=hC.s0 hx11;have hL:=hL.u hx11;have hB1:=hB1.u hx11;have hn:=hn.u hx11;have hB4:=hB4.u hx11
    refine Qu J (Z 3 J (C0 (d:=36) J (fun g3=>?_) (fun g3=>?_)))
    ·rw [cmpB_gtr] at g3;have hF:Cr8 (B6 s) m=false:=by rw [hFdef,El3 (p:=n8s t≤80) (by omega)];simp
     refine Qk J (Qk J (Zc 1 J (E3 J (Qa (C8 (S:=[]) 2 [(0,0),(0,1),(2,2),(2,3)] mo (by kernel_rfl) ?_)))));intro w12 hx12 hh12;have hB1:=hB1.u hx12;have hB4:=hB4.u hx12;refine D6 J (C1 M9 J ‹_› (by simp;done) J J) ?_;refine Z 1 J (Pb (cs':=[a0,a1,a2,a3,a4,a5,a6]) Al7 J J hB1 J J hone J J ?_);intro w13 hs13 hx13 hB1;have hC:=hC.step (hx12.j hx13) (by simp<;>omega);refine Zc 1 J (A6 (H0 J J J (A5 M9 ‹_› J J) J ?_));exact ⟨hC,fun _=>⟨_,rfl,hone,rfl⟩,fun h=>by rw [hF] at h;cases h⟩
    ·rw [cmpB_gtrF] at g3;refine Qu J (La M9 J ‹_› J J ?_);refine Qu J (Ca fb60 J (idle_c t hg (by omega) _ _ _ (fun z hz=>by have:=hz.2.1;omega) hn) ?_);rintro _ w14 ⟨rfl,hx14⟩;have hz14:=hx14.size;have hC:=hC.s0 hx14;have hL:=hL.u hx14;have hB1:=hB1.u hx14;have hn:=hn.u hx14;have hB4:=hB4.u hx14
     refine Zc 1 J (A4 J (fun g4=>?_) (fun g4=>?_))
     ·try simp at g4
      have hF:Cr8 (B6 s) m=false:=by rw [hFdef,g4];simp
      refine Qa (C8 (S:=[]) 2 [(0,0),(0,1),(2,2),(2,3)] mo (by kernel_rfl) ?_);intro w15 hx15 hh15;have hB1:=hB1.u hx15;have hB4:=hB4.u hx15;refine D6 J (C1 M9 J ‹_› (by simp;done) J J) ?_;refine Z 1 J (Pb (cs':=[a0,a1,a2,a3,a4,a5,a6]) Al7 J J hB1 J J hone J J ?_);intro w16 hs16 hx16 hB1;have hC:=hC.step (hx15.j hx16) (by simp<;>omega);refine Zc 1 J (A6 (H0 J J J (A5 M9 ‹_› J J) J ?_));exact ⟨hC,fun _=>⟨_,rfl,hone,rfl⟩,fun h=>by rw [hF] at h;cases h⟩
     ·try simp at g4
      have hF:Cr8 (B6 s) m=true:=by rw [hFdef,El2 (p:=s.size≤40) (by omega),El2 g1',El2 (p:=B9 t≤10) (by omega),El2 (p:=n8s t≤80) (by omega),show Cm8 t=false by simpa using g4];rfl
      refine A7 (Qd (Z 2 J (Ca fb61 J (Bn6 s m _ hL (Dl8 s (by omega))) ?_)));rintro _ w17 ⟨hx17,ad,rfl,hI,hN0⟩;generalize S4 (B6 s) m=q at*;have hI:q.2.2=0→IsCor (FR (b1+1) w17.heap.size []) w17 q.1 (.pointer ad):=fun h=>(hI h).mono (fun z hz hzl=>⟨by have:=hz.1;omega,hz.2.1,by simp⟩)
      have hIm:∀ w',Chg [b1] w17 w'→q.2.2=0→IsCor (FR w.heap.size w'.heap.size []) w' q.1 (.pointer ad):=fun w' hc h=>((hI h).q hc (fun b hb hf=>by simp at hb;have:=hf.1;omega)).mono (fun z hz hzl=>⟨by have:=hz.1;omega,hzl,by simp⟩)
      have hCm:=A8 [b1] w17;refine Zc 7 J (Qa (C8 (S:=[]) 3 [(0,0),(0,1),(0,2),(2,3),(2,4)] mo (by kernel_rfl) ?_));intro w18 hx18 hh18;have hB1:=hB1.u (hx17.s0 hx18);have hn:=hn.u (hx17.s0 hx18);have hB4:=hB4.u (hx17.s0 hx18);refine Z 1 J (D6 J (C1 M9 J ‹_› (by simp;done) J J) ?_);refine Z 1 J (Pb (cs':=[a0,a1,a2,a3,a4,a5,a6]) Al7 J J hB1 J J hone J J ?_);intro w19 hs19 hx19 hB1;have hC:=hC.step ((hx17.j hx18).j hx19) (by simp<;>omega);have hn:=hn.q hx19 (by intro x hx hf;have hx:=Ek3.1 hx;have h1:=hf.1;have h2:=hf.2.1;omega);have hCm:=hCm.step (hx18.j hx19) (by simp<;>omega);refine Zc 1 J (A6 (H0 J J J (A5 M9 ‹_› J J) J ?_))
      refine ⟨hC,?_,?_⟩
      ·intro h;rw [hF] at h
       cases h
      ·intro _;exact ⟨_,ad,rfl,hn.mono fun z h hzl=>⟨by have:=h.1;omega,hzl,by simp⟩,hIm _ hCm,hN0⟩
def Au0 (L:List Nat) (m:Int):Bool:=Cr8 L m && decide ((S4 L m).2.2=0) && decide ((L6 (S4 L m).1).length≤600)
theorem seven {cs:List Value} (h:cs.length=7):∃ a0 a1 a2 a3 a4 a5 a6,cs=[a0,a1,a2,a3,a4,a5,a6]:=by
 match cs,h with
 |[a0,a1,a2,a3,a4,a5,a6],_=>exact ⟨a0,a1,a2,a3,a4,a5,a6,rfl⟩
theorem Ce0 {L:List Nat} {m:Int} (hL:∀ b∈L,b<256) (h:Cr8 L m=true):L.length≤40∧(I6 L m).2.2=0∧G8 (I6 L m).1∧n8s (I6 L m).1≤80∧B9 (I6 L m).1≤10:=by
 unfold Cr8 at h;simp only [Ek6,Em0] at h;obtain ⟨⟨⟨⟨h1,h2⟩,h3⟩,h4⟩,h5⟩:=h;exact ⟨h1,h2,(Aw9 L m hL (by omega) h2).1,h4,h3⟩
theorem Dv7 (s:ByteArray) (m:Int) (w:World) (hL:Laid w):Calls P 11 #[.string s,.int .i64 m] w (Ret fun u w'=>Chg [] w w'∧(Au0 (B6 s) m=false→∃ cs:List Value,u= .tuple #[.pointer none,.agg cs.toArray,.int .i64 1]∧cs.all Value.oneCell'=true∧cs.length=5)∧(Au0 (B6 s) m=true→∃ (cs:List Value) (p:Nat),u= .tuple #[.pointer (some ⟨p,0,none⟩),.agg cs.toArray,.int .i64 0]∧RAuto (FR w.heap.size w'.heap.size []) w' (I6 (B6 s) m).1 cs∧IsAut (FR w.heap.size w'.heap.size []) w' p (T6 (S4 (B6 s) m).1).1 (T6 (S4 (B6 s) m).1).2)):=by
 have hC:=A8 [] w;have hlt:=R5 s;refine D4 Tryz.func11 J J (Qd (Z 1 J (B5 J (B8 Ds0 J) ?_)));intro b1 w1 hb1 hs1 hx1 hB1;have hL:=hL.u hx1;refine Zc 1 J (Qd (Z 2 J (Ca fb36 J (Dv8 s m _ hL) ?_)));rintro v6 w2 ⟨hx2,hno,hyes⟩;have hz2:=hx2.size;have hC:=hC.s0 (hx1.s0 hx2);have hB1:=hB1.u hx2
 by_cases hf:Cr8 (B6 s) m=true
 ·obtain ⟨cs,ad,rfl,hn,hI,hN0⟩:=hyes hf;obtain ⟨_,_,hg,hn8,_⟩:=Ce0 hlt hf;have hn:=hn.mono (F':=FR (b1+1) w2.heap.size []) (fun z h _=>⟨by have:=h.1;omega,h.2.1,by simp⟩);have hone:=hn.one1;obtain ⟨a0,a1,a2,a3,a4,a5,a6,rfl⟩:=hn.cells
  by_cases hc:(S4 (B6 s) m).2.2=0
  ·have hI:=hI hc;have hl:=Dp9 (B6 s) m hc;refine Z 4 J (B5 J (B8 Ar2 J) ?_);intro b3 w3 hb3 hs3 hx3 hB3;have hn:=hn.u hx3;have hI:=hI.u hx3;refine Z 1 J (Pb (cs':=[a0,a1,a2,a3,a4,a5,a6]) Al7 J J hB3 J J hone J J ?_);intro w4 hs4 hx4 hB3;have hn:=hn.q hx4 (by intro x hx hf;have hx:=Ek3.1 hx;have h1:=hf.1;have h2:=hf.2.1;omega);have hI:=hI.q hx4 (by intro x hx hf;have hx:=Ek3.1 hx;have h1:=hf.1;have h2:=hf.2.1;omega);refine Zc 1 J (Qa (Qd (Zc 2 J (E4 (rfl) (A7 (Qd (Z 1 J (Ca fb37 J (anew_c (S4 (B6 s) m).1 _ _ _ hI (fun z hz=>by have:=hz.2.1;omega) hl) ?_))))))));rintro v9 w5 ⟨hx5,hbig,hsm⟩;have hz5:=hx5.size;have hC:=hC.step ((hx3.j hx4).j hx5) (by simp<;>omega);have hB1:=hB1.q ((hx3.j hx4).j hx5) (by simp<;>omega);have hn:=hn.u hx5;have hB3:=hB3.u hx5
   by_cases hb:600<(L6 (S4 (B6 s) m).1).length
   ·have hv:=hbig hb;subst hv;have hM:Au0 (B6 s) m=false:=by unfold Au0;rw [El3 (p:=_≤600) (by omega)];simp
    refine Zc 5 J (Qa (Qd (Zc 2 J (E3 (rfl) (Qd (C9 J (B1 Ds0 pl27 J (by rfl)) ?_))))));refine Z 1 J (Pe Dj9 J ‹_› J J ?_);intro w6 hs6 hx6 hB1;have hC:=hC.step hx6 (by simp;omega);refine Zc 1 J (A6 (H0 J J J (A5 Cq4 ‹_› J J) J ?_));exact ⟨hC,fun _=>⟨_,rfl,rfl,rfl⟩,fun h=>by rw [hM] at h;cases h⟩
   ·obtain ⟨p,rfl,hA⟩:=hsm (by omega);have hA:=hA.mono (F':=FR (b1+1) w5.heap.size []) (fun z h _=>⟨by have:=h.1;omega,h.2.1,by simp⟩);have hM:Au0 (B6 s) m=true:=by unfold Au0;rw [hf,El2 hc,El2 (p:=_≤600) (by omega)];rfl
    refine Zc 5 J (Qa (Qd (Zc 2 J (E4 (rfl) (A7 (Qd (Z 1 J (La M9 J ‹_› J J ?_))))))));refine Ca fb38 J (rauto_c (I6 (B6 s) m).1 hg (by omega) [a0,a1,a2,a3,a4,a5,a6] _ _ (fun z hz=>by have:=hz.2.1;omega) hn) ?_;rintro _ w7 ⟨hx7,cs2,rfl,hR⟩;have hB1:=hB1.u hx7;have hA:=hA.u hx7;have hR:=hR.mono (F':=FR (b1+1) w7.heap.size []) (fun z h _=>⟨by have:=h.1;omega,h.2.1,by simp⟩);have hone2:=hR.one1
    obtain ⟨d0,d1,d2,d3,d4,rfl⟩:∃ d0 d1 d2 d3 d4,cs2=[d0,d1,d2,d3,d4]:=by
     obtain ⟨As,cS,pf,pl,bt,bs,rfl,_⟩:=hR;exact ⟨_,_,_,_,_,rfl⟩
    try have hlR:=hR.lt
    refine Z 1 J (Pb (cs':=[d0,d1,d2,d3,d4]) Dj9 J J hB1 J J hone2 J J ?_);intro w8 hs8 hx8 hB1;have hC:=hC.step (hx7.j hx8) (by simp<;>omega);have hA:=hA.q hx8 (by intro x hx hf;have hx:=Ek3.1 hx;have h1:=hf.1;have h2:=hf.2.1;omega);have hR:=hR.q hx8 (by intro x hx hf;have hx:=Ek3.1 hx;have h1:=hf.1;have h2:=hf.2.1;omega);refine Zc 1 J (A6 (H0 J J J (A5 Cq4 ‹_› J J) J ?_))
    refine ⟨hC,?_,?_⟩
    ·intro h;rw [hM] at h
     cases h
    ·intro _;exact ⟨_,p,rfl,hR.mono fun z h hzl=>⟨by have:=h.1;omega,hzl,by simp⟩,hA.mono fun z h hzl=>⟨by have:=h.1;omega,hzl,by simp⟩⟩
  ·have hN:=hN0 hc;subst hN;have hM:Au0 (B6 s) m=false:=by unfold Au0;rw [El3 hc];simp
   refine Z 4 J (B5 J (B8 Ar2 J) ?_);intro b9 w9 hb9 hs9 hx9 hB9;refine Z 1 J (Pb (cs':=[a0,a1,a2,a3,a4,a5,a6]) Al7 J J hB9 J J hone J J ?_);intro w10 hs10 hx10 hB10;refine Zc 1 J (Qa (Qd (Zc 2 J (E4 (rfl) (A7 (Qd (Z 1 J (Ca fb37 J (anew_nil _) ?_))))))));rintro _ w11 ⟨rfl,hx11⟩;have hB1:=hB1.q ((hx9.j hx10).j hx11) (by simp<;>omega);refine Zc 5 J (Qa (Qd (Zc 2 J (E3 (rfl) (Qd (C9 J (B1 Ds0 pl27 J (by rfl)) ?_))))));refine Z 1 J (Pe Dj9 J ‹_› J J ?_);intro w12 hs12 hx12 hB1;have hC:=hC.step (((hx9.j hx10).j hx11).j hx12) (by simp<;>omega);refine Zc 1 J (A6 (H0 J J J (A5 Cq4 ‹_› J J) J ?_));exact ⟨hC,fun _=>⟨_,rfl,rfl,rfl⟩,fun h=>by rw [hM] at h;cases h⟩
 ·have hf':Cr8 (B6 s) m=false:=by simpa using hf
  obtain ⟨cs,rfl,hone,hlen⟩:=hno hf';obtain ⟨a0,a1,a2,a3,a4,a5,a6,rfl⟩:=seven hlen;have hM:Au0 (B6 s) m=false:=by unfold Au0;rw [hf'];rfl
  refine Z 4 J (B5 J (B8 Ar2 J) ?_);intro b13 w13 hb13 hs13 hx13 hB13;refine Z 1 J (Pb (cs':=[a0,a1,a2,a3,a4,a5,a6]) Al7 J J hB13 J J hone J J ?_);intro w14 hs14 hx14 hB14;have hB1:=hB1.q (hx13.j hx14) (by simp<;>omega);refine Zc 1 J (Qa (Qd (Zc 2 J (E3 (rfl) (Qd (C9 J (B1 Ds0 pl27 J (by rfl)) ?_))))));refine Z 1 J (Pe Dj9 J ‹_› J J ?_);intro w15 hs15 hx15 hB1;have hC:=hC.step ((hx13.j hx14).j hx15) (by simp<;>omega);refine Zc 1 J (A6 (H0 J J J (A5 Cq4 ‹_› J J) J ?_));exact ⟨hC,fun _=>⟨_,rfl,rfl,rfl⟩,fun h=>by rw [hM] at h;cases h⟩
end Go.Clt
section
namespace Go.Clt
open Go Go.RowKit
theorem Aq0 (a b:Int):0<W1 a b↔0<a∨0<b:=by unfold W1;omega
theorem Ap9 (a b:Int):0<Ac2 a b↔0<a∧0<b:=by
 unfold Ac2
 by_cases ha:0<a
 ·by_cases hb:0<b
  ·have:=Int.mul_pos (show 0<max a 0 by omega) (show 0<max b 0 by omega);omega
  ·rw [show max b 0=0 by omega,Int.mul_zero];omega
 ·rw [show max a 0=0 by omega,Int.zero_mul];omega
theorem Ad8 (a b:List Int) (k:Int) (j:Nat) (h:j<a.length):0<(Ak8 a b k).getD j 0↔0<a.getD j 0∨(0<b.getD j 0∧0<k):=by
 rw [← Ap9,← Aq0];unfold Ak8 Cj8;rw [Ek2,El8,Em7 h,En4,Eo1]
theorem SameC.g8 {t:R8} {c:Cor} (h:SameC t c):G8 t:=by
 induction h with
 |empty=>rw [G8,G8s];exact ⟨.inl ⟨rfl,rfl⟩,trivial⟩
 |set=>rw [G8,G8s];exact ⟨.inr (.inl ⟨rfl,rfl⟩),trivial⟩
 |cat _ _ ha hb=>rw [G8,G8s,G8s,G8s];exact ⟨.inr (.inr (.inl ⟨.inl rfl,rfl⟩)),ha,hb,trivial⟩
 |alt _ _ ha hb=>rw [G8,G8s,G8s,G8s];exact ⟨.inr (.inr (.inl ⟨.inr rfl,rfl⟩)),ha,hb,trivial⟩
 |star _ ha=>rw [G8,G8s,G8s];exact ⟨.inr (.inr (.inr ⟨rfl,rfl⟩)),ha,trivial⟩
theorem SameC.sets {t:R8} {c:Cor} (h:SameC t c):L6 c=P7 t:=by
 induction h with
 |empty=>rw [P7,L5];rfl
 |set=>rw [P7,L5];rfl
 |cat _ _ ha hb=>rw [P7,L5,L5,L5,L6,ha,hb];simp
 |alt _ _ ha hb=>rw [P7,L5,L5,L5,L6,ha,hb];simp
 |star _ ha=>rw [P7,L5,L5,L6,ha];simp
theorem SameC.len {t:R8} {c:Cor} (h:SameC t c) (q:Wst):(M0 c q).2.S.length=q.S.length+B9 t:=by
 rw [Al6,h.sets,Am3 t h.g8]
theorem Ce6 (s:Nat) (z:Bool) (a b:R8) (at_ all:Nat) (last:Bool):J2 (.node 2 s z [a,b]) at_ all last=if last=true then Ak8 (J2 b (at_+B9 a) all last) (J2 a at_ all last) (O1 b) else Ak8 (J2 a at_ all last) (J2 b (at_+B9 a) all last) (O1 a):=by
 rw [J2,W5,W5,W5];rfl
theorem Ce7 (s:Nat) (z:Bool) (a b:R8) (at_ all:Nat) (last:Bool):J2 (.node 3 s z [a,b]) at_ all last=Ak8 (J2 a at_ all last) (J2 b (at_+B9 a) all last) 1:=by
 rw [J2,W5,W5,W5];rfl
theorem Bm9 (s:Nat) (z:Bool) (a:R8) (at_ all:Nat) (last:Bool):J2 (.node 4 s z [a]) at_ all last=J2 a at_ all last:=by
 rw [J2,W5,W5];rfl
theorem Ce5 (s:Nat) (z:Bool) (at_ all:Nat) (last:Bool):J2 (.node 1 s z []) at_ all last=(List.replicate all 0).set at_ 1:=by
 rw [J2,W5];rfl
theorem Bc1 (s:Nat) (z:Bool) (at_ all:Nat) (last:Bool):J2 (.node 0 s z []) at_ all last=List.replicate all 0:=by
 rw [J2,W5];rfl
theorem Bz4 (n j:Nat):¬ 0<(List.replicate n (0:Int)).getD j 0:=by
 rw [Ek2,Es4]
 split<;>simp
theorem Du4 (n k j:Nat) (hj:j<n):0<((List.replicate n (0:Int)).set k 1).getD j 0↔j=k:=by
 rw [Ek2,En1,En5,Es4,Ek1 hj]
 by_cases h:k=j
 ·subst h;simp [hj]
 ·simp [h,Ne.symm h]
theorem Bz8 (k:Int) (s:Nat) (z:Bool) (a b:R8) (hk:k≠1):B9 (.node k s z [a,b])=B9 a+B9 b:=by
 rw [B9,H6,H6,H6,Ek0 hk];omega
theorem Dx0 (s:Nat) (z:Bool) (a:R8):B9 (.node 4 s z [a])=B9 a:=by
 rw [B9,H6,H6,Ek0 (by decide)];omega
theorem void2 (k:Int) (s:Nat) (z:Bool) (a b:R8):O1 (.node k s z [a,b])=Ch6 k [O1 a,O1 b]:=by
 rw [O1,Ac0,Ac0,Ac0]
structure KnS (t:R8) (k:Kn) (at_ all:Nat):Prop where
 void:0<k.void↔0<O1 t
 first:∀ j,j<all→(0<k.first j↔0<(J2 t at_ all false).getD j 0)
 last:∀ j,j<all→(0<k.last j↔0<(J2 t at_ all true).getD j 0)
theorem Ba0 (f g:BagF) (k:Int) (j:Nat):0<Bf9 f g k j↔0<f j∨(0<g j∧0<k):=by
 unfold Bf9;rw [Aq0,Ap9]
theorem Cb5 {t:R8} {c:Cor} (h:SameC t c) (all:Nat):∀ q:Wst,KnS t (M0 c q).1 q.S.length all:=by
 induction h with
 |empty=>
  intro q
  refine ⟨?_,fun j hj=>?_,fun j hj=>?_⟩
  ·rw [O1,Ac0];exact Iff.rfl
  ·rw [Bc1];exact iff_of_false (by show ¬ (0:Int)<0;omega) (Bz4 _ _)
  ·rw [Bc1];exact iff_of_false (by show ¬ (0:Int)<0;omega) (Bz4 _ _)
 |set=>
  intro q
  have key:∀ j,j<all→(0<one1 q.S.length j↔0<((List.replicate all (0:Int)).set q.S.length 1).getD j 0):=fun j hj=>by
   rw [Du4 _ _ _ hj];unfold one1
   split<;>simp [*]
  refine ⟨?_,fun j hj=>?_,fun j hj=>?_⟩
  ·rw [O1,Ac0];exact Iff.rfl
  ·rw [Ce5];exact key j hj
  ·rw [Ce5];exact key j hj
 | @cat s z a b x y ha hb iha ihb=>
  intro q;obtain ⟨v1,f1,l1⟩:=iha q;obtain ⟨v2,f2,l2⟩:=ihb (M0 x q).2;rw [ha.len] at f2 l2;have ea:=fun last=>(W6 a ha.g8 q.S.length all last).1
  have eb:=fun last=>(W6 b hb.g8 (q.S.length+B9 a) all last).1
  refine ⟨?_,fun j hj=>?_,fun j hj=>?_⟩
  ·show 0<Ac2 _ _↔_;rw [void2,Ap9,v1,v2];show _↔0<Ac2 _ _;rw [Ap9];exact Iff.rfl
  ·show 0<Bf9 _ _ _ j↔_;rw [Ce6,Ek0 (by decide),Ad8 _ _ _ _ (by rw [ea];exact hj),Ba0,f1 j hj,f2 j hj,v1]
  ·show 0<Bf9 _ _ _ j↔_;rw [Ce6,Ek1 J,Ad8 _ _ _ _ (by rw [eb];exact hj),Ba0,l1 j hj,l2 j hj,v2]
 | @alt s z a b x y ha hb iha ihb=>
  intro q;obtain ⟨v1,f1,l1⟩:=iha q;obtain ⟨v2,f2,l2⟩:=ihb (M0 x q).2;rw [ha.len] at f2 l2;have ea:=fun last=>(W6 a ha.g8 q.S.length all last).1
  refine ⟨?_,fun j hj=>?_,fun j hj=>?_⟩
  ·show 0<W1 _ _↔_;rw [void2,Aq0,v1,v2];show _↔0<W1 _ _;rw [Aq0];exact Iff.rfl
  ·show 0<Bf9 _ _ _ j↔_;rw [Ce7,Ad8 _ _ _ _ (by rw [ea];exact hj),Ba0,f1 j hj,f2 j hj]
  ·show 0<Bf9 _ _ _ j↔_;rw [Ce7,Ad8 _ _ _ _ (by rw [ea];exact hj),Ba0,l1 j hj,l2 j hj]
 | @star s z a x z' ha iha=>
  intro q;obtain ⟨v1,f1,l1⟩:=iha q
  refine ⟨?_,fun j hj=>?_,fun j hj=>?_⟩
  ·rw [O1];exact Iff.rfl
  ·rw [Bm9];exact f1 j hj
  ·rw [Bm9];exact l1 j hj
theorem Ee5 {t:R8} {c:Cor} (h:SameC t c) (all:Nat) (last:Bool):∀ (at_ j:Nat),j<all→0<(J2 t at_ all last).getD j 0→j<at_+B9 t:=by
 induction h with
 |empty=>intro at_ j hj hp;rw [Bc1] at hp;exact absurd hp (Bz4 _ _)
 |set=>
  intro at_ j hj hp;rw [Ce5,Du4 _ _ _ hj] at hp;rw [B9,Ek1 J];omega
 | @cat s z a b x y ha hb iha ihb=>
  intro at_ j hj hp;have ea:=(W6 a ha.g8 at_ all last).1;have eb:=(W6 b hb.g8 (at_+B9 a) all last).1;rw [Bz8 _ _ _ _ _ (by decide)];have ka:=iha at_ j hj;have kb:=ihb (at_+B9 a) j hj;rw [Ce6] at hp
  split at hp
  ·rw [Ad8 _ _ _ _ (by omega)] at hp
   rcases hp with hp|⟨hp,_⟩
   ·have:=kb hp;omega
   ·have:=ka hp;omega
  ·rw [Ad8 _ _ _ _ (by omega)] at hp
   rcases hp with hp|⟨hp,_⟩
   ·have:=ka hp;omega
   ·have:=kb hp;omega
 | @alt s z a b x y ha hb iha ihb=>
  intro at_ j hj hp;have ea:=(W6 a ha.g8 at_ all last).1;rw [Bz8 _ _ _ _ _ (by decide)];rw [Ce7,Ad8 _ _ _ _ (by omega)] at hp
  rcases hp with hp|⟨hp,_⟩
  ·have:=iha at_ j hj hp;omega
  ·have:=ihb (at_+B9 a) j hj hp;omega
 | @star s z a x z' ha iha=>
  intro at_ j hj hp;rw [Bm9] at hp;rw [Dx0];exact iha at_ j hj hp
inductive Lnk (all:Nat):R8→Nat→Nat→Nat→Prop
 |two1 {k s z a b at_ i j}:k=2∨k=3→Lnk all a at_ i j→Lnk all (.node k s z [a,b]) at_ i j
 |two2 {k s z a b at_ i j}:k=2∨k=3→Lnk all b (at_+B9 a) i j→Lnk all (.node k s z [a,b]) at_ i j
 |join {s z a b at_ i j}:0<(J2 b (at_+B9 a) all false).getD j 0→0<(J2 a at_ all true).getD i 0→Lnk all (.node 2 s z [a,b]) at_ i j
 |one {s z a at_ i j}:Lnk all a at_ i j→Lnk all (.node 4 s z [a]) at_ i j
 |loop {s z a at_ i j}:0<(J2 a at_ all false).getD j 0→0<(J2 a at_ all true).getD i 0→Lnk all (.node 4 s z [a]) at_ i j
theorem De9 (G:List BagF) (f g:BagF) (i j:Nat):0<((Ay2 G f g).getD i Q6) j↔0<(G.getD i Q6) j∨(i<G.length∧0<g j∧0<f i):=by
 unfold Ay2;rw [Ek2,Ep2,Ek2]
 by_cases h:i<G.length
 ·rw [Ek4 h,En4,Eo1,Eo1,Ba0];simp [h]
 ·rw [El5 (by omega),Option.map_none,Option.getD_none];simp [h]
theorem walk_lnk {t:R8} {c:Cor} (h:SameC t c) (all:Nat):∀ q:Wst,q.G.length=q.S.length→q.S.length+B9 t≤all→
  (M0 c q).2.G.length=(M0 c q).2.S.length∧∀ i j,i<all→j<all→(0<((M0 c q).2.G.getD i Q6) j↔0<(q.G.getD i Q6) j∨Lnk all t q.S.length i j):=by
 induction h with
 |empty=>
  intro q hq hl;exact ⟨hq,fun i j _ _=>⟨.inl,fun h=>by rcases h with h|h;exact h;cases h⟩⟩
 |set=>
  intro q hq hl;refine ⟨by show (q.G++[Q6]).length=(q.S++[_]).length;simp [hq],fun i j _ _=>?_⟩
  have:((q.G++[Q6]).getD i Q6)=q.G.getD i Q6:=by
   rw [Ek2,Ek2,List.getElem?_append]
   by_cases h:i<q.G.length
   ·rw [Ek1 h]
   ·rw [Ek0 h,El5 (l:=q.G) (by omega)]
    by_cases h2:i - q.G.length=0
    ·rw [h2];rfl
    ·rw [El5 (by simp;omega)]
  show 0<((q.G++[Q6]).getD i Q6) j↔_;rw [this];exact ⟨.inl,fun h=>by rcases h with h|h;exact h;cases h⟩
 | @cat s z a b x y ha hb iha ihb=>
  intro q hq hl;rw [Bz8 _ _ _ _ _ (by decide)] at hl;obtain ⟨g1,e1⟩:=iha q hq (by omega);obtain ⟨g2,e2⟩:=ihb (M0 x q).2 g1 (by rw [ha.len];omega);obtain ⟨_,_,l1⟩:=Cb5 ha all q;obtain ⟨_,f2,_⟩:=Cb5 hb all (M0 x q).2;have hlen:=hb.len (M0 x q).2;rw [ha.len] at e2 f2 hlen;refine ⟨by show (Ay2 _ _ _).length=_;unfold Ay2;rw [List.length_mapIdx];exact g2,fun i j hi hj=>?_⟩;show 0<((Ay2 _ _ _).getD i Q6) j↔_;rw [De9,e2 i j hi hj,e1 i j hi hj,f2 j hj,l1 i hi]
  constructor
  ·rintro (((h|h)|h)|⟨_,h1,h2⟩)
   ·exact .inl h
   ·exact .inr (.two1 (.inl J) h)
   ·exact .inr (.two2 (.inl J) h)
   ·exact .inr (.join h1 h2)
  ·rintro (h|h)
   ·exact .inl (.inl (.inl h))
   ·cases h with
    |two1 _ h=>exact .inl (.inl (.inr h))
    |two2 _ h=>exact .inl (.inr h)
    |join h1 h2=>exact .inr ⟨by have:=Ee5 ha all true _ i hi h2;omega,h1,h2⟩
 | @alt s z a b x y ha hb iha ihb=>
  intro q hq hl;rw [Bz8 _ _ _ _ _ (by decide)] at hl;obtain ⟨g1,e1⟩:=iha q hq (by omega);obtain ⟨g2,e2⟩:=ihb (M0 x q).2 g1 (by rw [ha.len];omega);rw [ha.len] at e2;refine ⟨g2,fun i j hi hj=>?_⟩;show 0<((M0 y (M0 x q).2).2.G.getD i Q6) j↔_;rw [e2 i j hi hj,e1 i j hi hj]
  constructor
  ·rintro ((h|h)|h)
   ·exact .inl h
   ·exact .inr (.two1 (.inr J) h)
   ·exact .inr (.two2 (.inr J) h)
  ·rintro (h|h)
   ·exact .inl (.inl h)
   ·cases h with
    |two1 _ h=>exact .inl (.inr h)
    |two2 _ h=>exact .inr h
 | @star s z a x z' ha iha=>
  intro q hq hl;rw [Dx0] at hl;obtain ⟨g1,e1⟩:=iha q hq hl;obtain ⟨_,f1,l1⟩:=Cb5 ha all q;have hlen:=ha.len q;refine ⟨by show (Ay2 _ _ _).length=_;unfold Ay2;rw [List.length_mapIdx];exact g1,fun i j hi hj=>?_⟩;show 0<((Ay2 _ _ _).getD i Q6) j↔_;rw [De9,e1 i j hi hj,f1 j hj,l1 i hi]
  constructor
  ·rintro ((h|h)|⟨_,h1,h2⟩)
   ·exact .inl h
   ·exact .inr (.one h)
   ·exact .inr (.loop h1 h2)
  ·rintro (h|h)
   ·exact .inl (.inl h)
   ·cases h with
    |one h=>exact .inl (.inr h)
    |loop h1 h2=>exact .inr ⟨by have:=Ee5 ha all true _ i hi h2;omega,h1,h2⟩
def Tab (T:List (List Int)) (all:Nat):Prop:=T.length=all∧∀ i,i<all→(T.getD i []).length=all
theorem Ei1 {T:List (List Int)} {all:Nat} (to frm:List Int) (h:Tab T all):Tab (addR T to frm) all∧∀ i j,i<all→j<all→(0<((addR T to frm).getD i []).getD j 0↔0<(T.getD i []).getD j 0∨(0<to.getD j 0∧0<frm.getD i 0)):=by
 obtain ⟨h1,h2⟩:=h;unfold addR
 refine ⟨⟨by rw [addL_len];exact h1,fun i hi=>?_⟩,fun i j hi hj=>?_⟩
 ·rw [Cf6 _ _ _ _ _ (by omega),Ek1 (by omega),An3];exact h2 i hi
 ·rw [Cf6 _ _ _ _ _ (by omega),Ek1 (by omega),Ad8 _ _ _ _ (by rw [h2 i hi];exact hj)]
theorem Ec5 (k:Int) (s:Nat) (z:Bool) (a b:R8) (at_ all:Nat) (T:List (List Int)):Cg9 (.node k s z [a,b]) at_ all T=Cg9 b (at_+B9 a) all (Cg9 a at_ all (folK k [a,b] at_ all T)):=by
 rw [Cg9,Ao5,Ao5,Ao5];rfl
theorem fol_one (s:Nat) (z:Bool) (a:R8) (at_ all:Nat) (T:List (List Int)):Cg9 (.node 4 s z [a]) at_ all T=Cg9 a at_ all (addR T (J2 a at_ all false) (J2 a at_ all true)):=by
 rw [Cg9,Ao5,Ao5];rfl
theorem fol_lnk {t:R8} {c:Cor} (h:SameC t c) (all:Nat):∀ (at_:Nat) (T:List (List Int)),Tab T all→
  Tab (Cg9 t at_ all T) all∧∀ i j,i<all→j<all→(0<((Cg9 t at_ all T).getD i []).getD j 0↔0<(T.getD i []).getD j 0∨Lnk all t at_ i j):=by
 induction h with
 |empty=>
  intro at_ T hT;rw [Cg9,Ao5];exact ⟨hT,fun i j _ _=>⟨.inl,fun h=>by rcases h with h|h;exact h;cases h⟩⟩
 |set=>
  intro at_ T hT;rw [Cg9,Ao5];exact ⟨hT,fun i j _ _=>⟨.inl,fun h=>by rcases h with h|h;exact h;cases h⟩⟩
 | @cat s z a b x y ha hb iha ihb=>
  intro at_ T hT;rw [Ec5];have hK:folK 2 [a,b] at_ all T=addR T (J2 b (at_+B9 a) all false) (J2 a at_ all true):=rfl;rw [hK];obtain ⟨t0,e0⟩:=Ei1 (J2 b (at_+B9 a) all false) (J2 a at_ all true) hT;obtain ⟨t1,e1⟩:=iha at_ _ t0;obtain ⟨t2,e2⟩:=ihb (at_+B9 a) _ t1;refine ⟨t2,fun i j hi hj=>?_⟩;rw [e2 i j hi hj,e1 i j hi hj,e0 i j hi hj]
  constructor
  ·rintro (((h|⟨h1,h2⟩)|h)|h)
   ·exact .inl h
   ·exact .inr (.join h1 h2)
   ·exact .inr (.two1 (.inl J) h)
   ·exact .inr (.two2 (.inl J) h)
  ·rintro (h|h)
   ·exact .inl (.inl (.inl h))
   ·cases h with
    |two1 _ h=>exact .inl (.inr h)
    |two2 _ h=>exact .inr h
    |join h1 h2=>exact .inl (.inl (.inr ⟨h1,h2⟩))
 | @alt s z a b x y ha hb iha ihb=>
  intro at_ T hT;rw [Ec5];have hK:folK 3 [a,b] at_ all T=T:=rfl;rw [hK];obtain ⟨t1,e1⟩:=iha at_ _ hT;obtain ⟨t2,e2⟩:=ihb (at_+B9 a) _ t1;refine ⟨t2,fun i j hi hj=>?_⟩;rw [e2 i j hi hj,e1 i j hi hj]
  constructor
  ·rintro ((h|h)|h)
   ·exact .inl h
   ·exact .inr (.two1 (.inr J) h)
   ·exact .inr (.two2 (.inr J) h)
  ·rintro (h|h)
   ·exact .inl (.inl h)
   ·cases h with
    |two1 _ h=>exact .inl (.inr h)
    |two2 _ h=>exact .inr h
 | @star s z a x z' ha iha=>
  intro at_ T hT;rw [fol_one];obtain ⟨t0,e0⟩:=Ei1 (J2 a at_ all false) (J2 a at_ all true) hT;obtain ⟨t1,e1⟩:=iha at_ _ t0;refine ⟨t1,fun i j hi hj=>?_⟩;rw [e1 i j hi hj,e0 i j hi hj]
  constructor
  ·rintro ((h|⟨h1,h2⟩)|h)
   ·exact .inl h
   ·exact .inr (.loop h1 h2)
   ·exact .inr (.one h)
  ·rintro (h|h)
   ·exact .inl (.inl h)
   ·cases h with
    |one h=>exact .inr h
    |loop h1 h2=>exact .inl (.inr ⟨h1,h2⟩)
structure SameA (t:R8) (k:Kn) (q:Wst):Prop where
 S:q.S=P7 t
 len:q.S.length=B9 t
 kn:KnS t k 0 (B9 t)
 fol:∀ i j,i<B9 t→j<B9 t→(0<(q.G.getD i Q6) j↔0<((V2 t).getD i []).getD j 0)
theorem Dr0 {t:R8} {c:Cor} (h:SameC t c):SameA t (T6 c).1 (T6 c).2:=by
 have hS:(T6 c).2.S=P7 t:=by rw [Da4,h.sets]
 refine ⟨hS,by rw [hS,Am3 t h.g8],Cb5 h (B9 t) ⟨[],[]⟩,fun i j hi hj=>?_⟩;have h1:=(walk_lnk h (B9 t) ⟨[],[]⟩ rfl (by show 0+_≤_;omega)).2 i j hi hj;have hz:Tab (List.replicate (B9 t) (List.replicate (B9 t) 0)) (B9 t):=⟨by simp,fun i hi=>by simp [Ek2,Es4,hi]⟩;have h2:=(fol_lnk h (B9 t) 0 _ hz).2 i j hi hj;unfold T6 V2;rw [h1,h2];refine or_congr (iff_of_false (by show ¬ (0:Int)<0;omega) ?_) Iff.rfl;have hrow:(List.replicate (B9 t) (List.replicate (B9 t) (0:Int))).getD i []=List.replicate (B9 t) 0:=by simp [Ek2,Es4,hi]
 rw [hrow];exact Bz4 _ _
theorem Ea2 (s:ByteArray) (m:Int) (h:Au0 (B6 s) m=true):SameA (I6 (B6 s) m).1 (T6 (S4 (B6 s) m).1).1 (T6 (S4 (B6 s) m).1).2:=by
 unfold Au0 at h;simp only [Ek6,Em0] at h;obtain ⟨⟨h1,h2⟩,h3⟩:=h;obtain ⟨h4,h5,_⟩:=Ce0 (R5 s) h1;refine Dr0 ?_;unfold I6 at h5 ⊢;unfold S4 at h2 ⊢
 by_cases c1:m<0∨3<m
 ·rw [Ek1 c1] at h5;exact absurd h5 (by decide)
 rw [Ek0 c1] at h5 ⊢
 by_cases c2:(M3 (B6 s)).2.2=0
 ·rw [Ek0 (c:=(M3 (B6 s)).2.2≠0) (fun h=>h c2)] at h5 ⊢;rw [Ek0 (c:=m<0∨4≤m) (by omega)] at h2 ⊢
  by_cases c3:(M5 (B6 s)).2.2=0
  ·rw [Ek0 (c:=(M5 (B6 s)).2.2≠0) (fun h=>h c3)] at h2 ⊢
   by_cases c4:4096<clp (szR (M3 (B6 s)).1+Ak9 m)
   ·rw [Ek1 c4] at h5;exact absurd h5 (by decide)
   rw [Ek0 c4];exact Dz2 (Co9 (Dl7 s c2 c3) (Am6 _ (R5 s) (by omega) c2)) m
  ·rw [Ek1 c3] at h2;exact absurd h2 c3
 ·rw [Ek1 c2] at h5;exact absurd h5 c2
end Go.Clt
end
