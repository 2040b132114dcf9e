import Derived.Test.YtckdapbopihofaaGreatDoorCt6
/- How many words of a length a pattern means: as many as there are ways, byte by byte (DfaCounts). Conditions: none beyond the statement's own. -/
set_option linter.unusedVariables false
set_option linter.unusedSimpArgs false
set_option maxRecDepth 8000
set_option maxHeartbeats 4000000
namespace Go.Clt
open Go Go.RowKit Go.Proofs
theorem Bx0 (t : R8) (hg : G8 t) (hn : n8s t ≤ 100000) (cs : List Value) (F : Nat → Prop) (w : World) (hF : ∀ x, F x → x < w.heap.size) (hN : N8 F w t cs) : Calls P 70 #[.agg cs.toArray] w (Ret fun u w' => Chg [] w w' ∧ ∃ p, u = .slice (some ⟨p, 0, none⟩) (D8 t) (D8 t) ∧ w.heap.size ≤ p ∧ Blk w' p (H6 (Z8 t 0 (D8 t) false)) 3):=by
 have hC:=A8 [] w
 have hpl:=Ac5 t
 have hone:=hN.one1
 obtain ⟨a0, a1, a2, a3, a4, a5, a6, rfl⟩:=hN.cells
 refine D3 Tryz.func70 rfl rfl (Qd (B4 rfl (E0 rfl rfl) ?_))
 intro b1 w1 hb1 hs1 hx1 hB1
 refine Zc 1 rfl (Qa (C6 (S:=[]) 3 [(0, 0), (0, 1), (1, 2), (2, 3), (2, 4)] mo (by kernel_rfl) ?_))
 intro w2 hx2 hh2
 have hN:=hN.u (hx1.s0 hx2)
 have hB1:=hB1.u hx2
 have hCS2:=A8 ([]) w2
 refine D5 rfl (B8 K4 rfl ‹_› (by simp; done) rfl rfl) ?_
 refine D5 rfl (B8 K4 rfl ‹_› (by simp; done) rfl rfl) ?_
 refine C4 rfl (C0 fb58 rfl) (Ai3 t hn _ F _ (fun z hz => by have:=hF z hz; omega) hN) ?_
 rintro _ w3 ⟨rfl, hx3⟩
 have hz3:=hx3.size
 have hN:=hN.u hx3
 have hCS2:=hCS2.s0 hx3
 refine ⟨hCS2, ?_⟩
 refine Ca Ca7 rfl (Ck0 t hg hn _ F _ 0 (D8 t) false (by omega) (by omega) (fun z hz => by have:=hF z hz; omega) hN) ?_
 rintro _ w4 ⟨hx4, p, rfl, hp, hBp⟩
 have hC:=hC.s0 (((hx1.s0 hx2).s0 hx3).s0 hx4)
 exact Zc 1 rfl (A6 (B1 rfl rfl ⟨hC, _, rfl, by omega, hBp⟩))
theorem Co0 (t : R8) (hg : G8 t) (hn : n8s t ≤ 100000) (cs : List Value) (F : Nat → Prop) (w : World) (hF : ∀ x, F x → x < w.heap.size) (hN : N8 F w t cs) : Calls P 71 #[.agg cs.toArray] w (Ret fun u w' => Chg [] w w' ∧ ∃ p, u = .slice (some ⟨p, 0, none⟩) (D8 t) (D8 t) ∧ w.heap.size ≤ p ∧ Blk w' p (H6 (Z8 t 0 (D8 t) true)) 3):=by
 have hC:=A8 [] w
 have hpl:=Ac5 t
 have hone:=hN.one1
 obtain ⟨a0, a1, a2, a3, a4, a5, a6, rfl⟩:=hN.cells
 refine D3 Tryz.func71 rfl rfl (Qd (B4 rfl (E0 rfl rfl) ?_))
 intro b1 w1 hb1 hs1 hx1 hB1
 refine Zc 1 rfl (Qa (C6 (S:=[]) 3 [(0, 0), (0, 1), (1, 2), (2, 3), (2, 4)] mo (by kernel_rfl) ?_))
 intro w2 hx2 hh2
 have hN:=hN.u (hx1.s0 hx2)
 have hB1:=hB1.u hx2
 have hCS2:=A8 ([]) w2
 refine D5 rfl (B8 K4 rfl ‹_› (by simp; done) rfl rfl) ?_
 refine D5 rfl (B8 K4 rfl ‹_› (by simp; done) rfl rfl) ?_
 refine C4 rfl (C0 fb58 rfl) (Ai3 t hn _ F _ (fun z hz => by have:=hF z hz; omega) hN) ?_
 rintro _ w3 ⟨rfl, hx3⟩
 have hz3:=hx3.size
 have hN:=hN.u hx3
 have hCS2:=hCS2.s0 hx3
 refine ⟨hCS2, ?_⟩
 refine Ca Ca7 rfl (Ck0 t hg hn _ F _ 0 (D8 t) true (by omega) (by omega) (fun z hz => by have:=hF z hz; omega) hN) ?_
 rintro _ w4 ⟨hx4, p, rfl, hp, hBp⟩
 have hC:=hC.s0 (((hx1.s0 hx2).s0 hx3).s0 hx4)
 exact Zc 1 rfl (A6 (B1 rfl rfl ⟨hC, _, rfl, by omega, hBp⟩))
def U9 (all : Nat) (bs : List Nat) : List Value:=bs.map fun b => .slice (some ⟨b, 0, none⟩) all all
theorem Ao9 (all : Nat) (bs : List Nat) : (U9 all bs).length = bs.length:=by simp [U9]
theorem Bw6 (all : Nat) (bs : List Nat) (p : Nat) (h : p < bs.length) : (U9 all bs)[p]? = some (.slice (some ⟨bs.getD p 0, 0, none⟩) all all):=by
 simp [U9, Dr5 h, Dr3]
theorem De6 (all : Nat) (bs : List Nat) (p q : Nat) : (U9 all bs).set p (.slice (some ⟨q, 0, none⟩) all all) = U9 all (bs.set p q):=by simp [U9, Dx7]
structure RowsB (G : Nat → Prop) (w : World) (all : Nat) (bs : List Nat) (T : List (List Int)) : Prop where
 lb : bs.length = all
 lt : T.length = all
 row : ∀ p, p < all → G (bs.getD p 0) ∧ Blk w (bs.getD p 0) (H6 (T.getD p [])) 3 ∧ (T.getD p []).length = all ∧ rangeOk (T.getD p [])
theorem RowsB.q {G : Nat → Prop} {w w' : World} {all : Nat} {bs : List Nat} {T : List (List Int)} {S : List Nat} (h : RowsB G w all bs T) (c : Chg S w w') (hS : ∀ b ∈ S, ¬ G b) : RowsB G w' all bs T :=
 ⟨h.lb, h.lt, fun p hp => ⟨(h.row p hp).1, (h.row p hp).2.1.q c fun hm => hS _ hm (h.row p hp).1, (h.row p hp).2.2⟩⟩
theorem RowsB.u {G : Nat → Prop} {w w' : World} {all : Nat} {bs : List Nat} {T : List (List Int)} (h : RowsB G w all bs T) (c : Chg [] w w') : RowsB G w' all bs T:=h.q c (fun b hb => by cases hb)
theorem RowsB.mono {G G' : Nat → Prop} {w : World} {all : Nat} {bs : List Nat} {T : List (List Int)} (h : RowsB G w all bs T) (hG : ∀ b, G b → b < w.heap.size → G' b) : RowsB G' w all bs T :=
 ⟨h.lb, h.lt, fun p hp => ⟨hG _ (h.row p hp).1 (h.row p hp).2.1.lt, (h.row p hp).2⟩⟩
theorem Bw8 {α : Type} (l : List α) (i j : Nat) (v d : α) (hi : i < l.length) : (l.set i v).getD j d = if i = j then v else l.getD j d:=by
 simp only [Dr3, Dt5]
 by_cases h : i = j
 ·rw [Dr2 h, Dr2 h, Dr2 hi]; rfl
 ·rw [Dr1 h, Dr1 h]
theorem RowsB.put {G : Nat → Prop} {w : World} {all : Nat} {bs : List Nat} {T : List (List Int)} (h : RowsB G w all bs T) {p q : Nat} {row : List Int} (hp : p < all) (hq : Blk w q (H6 row) 3) (hG : G q) (hl : row.length = all) (hr : rangeOk row) : RowsB G w all (bs.set p q) (T.set p row):=by
 refine ⟨by rw [Dz2]; exact h.lb, by rw [Dz2]; exact h.lt, fun x hx => ?_⟩
 rw [Bw8 _ _ _ _ _ (by rw [h.lb]; exact hp), Bw8 _ _ _ _ _ (by rw [h.lt]; exact hp)]
 by_cases hc : p = x
 ·rw [Dr2 hc, Dr2 hc]; exact ⟨hG, hq, hl, hr⟩
 ·rw [Dr1 hc, Dr1 hc]; exact h.row x hx
def addL (T : List (List Int)) (to frm : List Int) (i : Nat) : List (List Int):=(List.range T.length).map fun x => if x < i then At4 (T.getD x []) to (frm.getD x 0) else T.getD x []
def addR (T : List (List Int)) (to frm : List Int) : List (List Int):=addL T to frm T.length
theorem Dp5 (T : List (List Int)) (to frm : List Int) : addL T to frm 0 = T:=by
 apply Ds9
 intro j
 simp only [addL, Dt6]
 by_cases h : j < T.length
 ·simp [Dt9 h, Dr5 h, Dr3]
 ·simp [Dt3 (l:=List.range T.length) (i:=j) (by simp; omega), Dt3 (l:=T) (i:=j) (by omega)]
theorem addL_get (T : List (List Int)) (to frm : List Int) (i j : Nat) (h : j < T.length) : (addL T to frm i).getD j [] = if j < i then At4 (T.getD j []) to (frm.getD j 0) else T.getD j []:=by
 rw [Dr3]
 simp only [addL, Dt6, Dt9 h, Du4, Dx5]
theorem addL_set (T : List (List Int)) (to frm : List Int) (i : Nat) (h : i < T.length) : (addL T to frm i).set i (At4 (T.getD i []) to (frm.getD i 0)) = addL T to frm (i + 1):=by
 apply Ds9
 intro j
 simp only [addL, Dt5, Dt6, Dx3, Dy3]
 by_cases hj : i = j
 ·subst hj
  simp [h, Dt9 h]
 ·simp only [Dr1 hj]
  by_cases h2 : j < T.length
  ·simp only [Dt9 h2, Du4]
   congr 1
   by_cases h3 : j < i
   ·simp [h3, show j < i + 1 by omega]
   ·simp [h3, show ¬ j < i + 1 by omega]
  ·simp [Dt3 (l:=List.range T.length) (i:=j) (by simp; omega)]
def folG (l : List R8) (fs : List (Nat → Nat → List (List Int) → List (List Int))) (at_ all : Nat) (T : List (List Int)) : List (List Int) :=
 match l, fs with
 | t :: ts, f :: r => folG ts r (at_ + D8 t) all (f at_ all T)
 | _, _ => T
def folK (k : Int) (l : List R8) (at_ all : Nat) (T : List (List Int)) : List (List Int) :=
 if k = 2 ∨ k = 4 then addR T (if k = 2 then Z8 (l.getD 1 default) (at_ + D8 (l.getD 0 default)) all false else Z8 (l.getD 0 default) at_ all false) (Z8 (l.getD 0 default) at_ all true) else T
mutual
def folR : R8 → Nat → Nat → List (List Int) → List (List Int)
 | .node k _ _ l => fun at_ all T => folG l (Bi2 l) at_ all (folK k l at_ all T)
def Bi2 : List R8 → List (Nat → Nat → List (List Int) → List (List Int))
 | [] => []
 | t :: r => folR t :: Bi2 r
end
theorem Dk5 (l : List R8) (i : Nat) (h : i < l.length) (at_ all : Nat) (T : List (List Int)) : folG (l.drop i) (Bi2 (l.drop i)) at_ all T = folG (l.drop (i + 1)) (Bi2 (l.drop (i + 1))) (at_ + D8 (l.getD i default)) all (folR (l.getD i default) at_ all T):=by
 have e : l.drop i = l.getD i default :: l.drop (i + 1):=by
  rw [List.drop_eq_getElem_cons h]
  simp [Dr3, Dr5 h]
 rw [e, Bi2, folG]
theorem folG_end (at_ all : Nat) (T : List (List Int)) : folG [] (Bi2 []) at_ all T = T:=by rw [Bi2, folG]; intros; simp_all
theorem Ap4 (l : List R8) (i : Nat) (h : i < l.length) : H3 (l.drop i) = D8 (l.getD i default) + H3 (l.drop (i + 1)):=by
 have e : l.drop i = l.getD i default :: l.drop (i + 1):=by
  rw [List.drop_eq_getElem_cons h]
  simp [Dr3, Dr5 h]
 rw [e, H3]
def FolRC (t : R8) : Prop:=∀ (cs : List Value) (F : Nat → Prop) (w : World) (at_ all bt : Nat) (bs : List Nat) (T : List (List Int)) (G : Nat → Prop), ¬ G bt → (∀ x, w.heap.size ≤ x → G x) → at_ + D8 t ≤ all → all ≤ 100000 → (∀ x, F x → x < w.heap.size) → ¬ F bt → N8 F w t cs → Blk w bt (U9 all bs) 24 → RowsB G w all bs T → Calls P 101 #[.agg cs.toArray, .int .i64 (at_ : Nat), .int .i64 (all : Nat), .slice (some ⟨bt, 0, none⟩) all all] w (Ret fun _ w' => Chg [bt] w w' ∧ ∃ bs', Blk w' bt (U9 all bs') 24 ∧ RowsB G w' all bs' (folR t at_ all T))
theorem fol_step (k : Int) (s : Nat) (lz : Bool) (l : List R8) (hk : K8 k l.length) (hg : G8s l) (hb : n8l l ≤ 100000) (hc : ∀ i, i < l.length → FolRC (l.getD i default)) : FolRC (.node k s lz l):=by
 intro cs F w at_ all bt bs T G hGb hGn hat hall hF hFb hN hBt hRo
 have hC:=A8 [bt] w
 have hbt:=hBt.lt
 have hl2 : l.length ≤ 2:=by rcases hk with h | h | h | h <;> omega
 have hOk : ∀ i, i < l.length → EndOk (l.getD i default):=Aq9 l hg
 obtain ⟨A, c, css, rfl, hr, hI⟩:=hN.open
 rw [D8] at hat
 have hE : folR (.node k s lz l) at_ all T = folG l (Bi2 l) at_ all (folK k l at_ all T):=by rw [folR]
 rw [hE]
 have hlen0 : 0 < l.length → (css.getD 0 []).length = 7:=fun h => (hI.get 0 h).len
 have hlen1 : 1 < l.length → (css.getD 1 []).length = 7:=fun h => (hI.get 1 h).len
 try have hlRo:=hRo.lt
 refine D3 Tryz.func101 rfl rfl (Qd (B4 rfl (E0 rfl rfl) ?_))
 intro b1 w1 hb1 hs1 hx1 hB1
 have hC:=hC.s0 hx1
 have hr:=hr.u hx1
 have hI:=hI.u hx1
 have hBt:=hBt.u hx1
 have hRo:=hRo.u hx1
 refine Qc (I1 (fun e9 wr => ∃ bs, Sub [(1, .int .i64 (at_ : Nat)), (2, .int .i64 (all : Nat)), (3, .slice (some ⟨bt, 0, none⟩) all all), (4, .pointer (some ⟨b1, 0, none⟩))] e9 ∧ Chg [bt] w wr ∧ Rd F wr 7 A l.length (List.flatten css) ∧ N8r F wr l css ∧ Blk wr b1 (n8C k s lz A l.length c) 73 ∧ Blk wr bt (U9 all bs) 24 ∧ RowsB G wr all bs (folK k l at_ all T)) ?_ ?_)
 ·refine I1 (fun e9 wr => Sub [(1, .int .i64 (at_ : Nat)), (2, .int .i64 (all : Nat)), (3, .slice (some ⟨bt, 0, none⟩) all all), (4, .pointer (some ⟨b1, 0, none⟩)), (19, .bool (decide (k = 2 ∨ k = 4)))] e9 ∧ Chg [bt] w wr ∧ Rd F wr 7 A l.length (List.flatten css) ∧ N8r F wr l css ∧ Blk wr b1 (n8C k s lz A l.length c) 73 ∧ Blk wr bt (U9 all bs) 24 ∧ RowsB G wr all bs T) ?_ ?_
  ·refine Qb (Fa Aq7 rfl (Lb o3 rfl ‹_› (by rfl) ?_))
   refine Z 2 rfl (B7 (d:=15) rfl (fun q2 => ?_) (fun q2 => ?_))
   ·try simp at q2
    refine Qk rfl (Qk rfl (Qk rfl (Zc 1 rfl ⟨⟨rfl, rfl, rfl, rfl, (G9 rfl (by rw [Ds2 (.inl q2)])), trivial⟩, ?_⟩)))
    exact ⟨hC, hr, hI, hB1, hBt, hRo⟩
   ·try simp at q2
    refine Qu rfl (Fa Aq7 rfl (Qu rfl (Lb o3 rfl ‹_› (by rfl) ?_)))
    refine Qu rfl (Zc 2 rfl ⟨⟨rfl, rfl, rfl, rfl, (G9 rfl (by rw [Ds6, cmpB_eql, Ds5]; omega)), trivial⟩, ?_⟩)
    exact ⟨hC, hr, hI, hB1, hBt, hRo⟩
  rintro e9 w8 ⟨hs9, hC, hr, hI, hB1, hBt, hRo⟩
  refine I0 _ hs9 ?_
  clear hs9 e9
  try have hlB1:=hB1.lt
  try have hlBt:=hBt.lt
  try have hlRo:=hRo.lt
  refine A4 rfl (fun q24 => ?_) (fun q24 => ?_)
  ·try simp at q24
   have hk0 : ¬ k = 1:=by omega
   rw [Dr1 hk0] at hat
   have hl1 : 1 ≤ l.length:=by rcases hk with h | h | h | h <;> omega
   have hp1 : D8 (l.getD 0 default) ≤ H3 l:=by
    have:=Ap4 l 0 (by omega)
    rw [List.drop_zero] at this
    omega
   have hlen0:=hlen0 (by omega)
   have hI0:=hI.get 0 (by omega)
   have hok0:=hOk 0 (by omega)
   obtain ⟨gA, off, rfl, hFg, hlt, hcell⟩:=hr.at_ (by omega)
   refine Qd (Fa M7 rfl (Lb o71 rfl ‹_› (by rfl) ?_))
   refine C7 rfl (B9 Ah3 rfl rfl (by omega) (by omega)) (C7 rfl (E4 (vs:=css.getD 0 []) K4 rfl (E9 _) (fun j v hj => by rw [Dt1]; exact hcell (0 * 7 + j) v (hI.row 0 (by omega) j v hj)) hlen0) ?_)
   refine Z 2 rfl (Ca Ca7 rfl (Ar0 l hg hb 0 (by omega) (css.getD 0 []) F _ at_ all true (by omega) hall (fun z hz => by have:=hF z hz; omega) hI0) ?_)
   rintro _ w2 ⟨hx2, pf, rfl, hpf, hBf⟩
   have hr:=hr.u hx2
   have hI:=hI.u hx2
   have hB1:=hB1.u hx2
   have hI0:=hI0.u hx2
   try have hlBf:=hBf.lt
   obtain ⟨_, _, hAE, _, hlt, hcell⟩:=hr.at_ (by omega)
   cases hAE
   refine Zc 1 rfl (Qd (Fa M7 rfl (Lb o71 rfl ‹_› (by rfl) ?_)))
   refine C7 rfl (B9 Ah3 rfl rfl (by omega) (by omega)) (C7 rfl (E4 (vs:=css.getD 0 []) K4 rfl (E9 _) (fun j v hj => by rw [Dt1]; exact hcell (0 * 7 + j) v (hI.row 0 (by omega) j v hj)) hlen0) ?_)
   refine Z 2 rfl (Ca Ca7 rfl (Ar0 l hg hb 0 (by omega) (css.getD 0 []) F _ at_ all false (by omega) hall (fun z hz => by have:=hF z hz; omega) hI0) ?_)
   rintro _ w3 ⟨hx3, pt, rfl, hpt, hBo⟩
   have hC:=hC.s0 (hx2.s0 hx3)
   have hr:=hr.u hx3
   have hI:=hI.u hx3
   have hB1:=hB1.u hx3
   have hBt:=hBt.u (hx2.s0 hx3)
   have hRo:=hRo.u (hx2.s0 hx3)
   have hI0:=hI0.u hx3
   have hBf:=hBf.u hx3
   try have hlBo:=hBo.lt
   have hok0f:=hok0 at_ all true
   have hok0t:=hok0 at_ all false
   generalize hfe : Z8 (l.getD 0 default) at_ all true = fr at *
   generalize hte : (if k = 2 then Z8 (l.getD 1 default) (at_ + D8 (l.getD 0 default)) all false else Z8 (l.getD 0 default) at_ all false) = to at *
   refine Zc 1 rfl (I1 (fun e9 wr => ∃ pt, Sub [(1, .int .i64 (at_ : Nat)), (2, .int .i64 (all : Nat)), (3, .slice (some ⟨bt, 0, none⟩) all all), (4, .pointer (some ⟨b1, 0, none⟩)), (8, .slice (some ⟨pf, 0, none⟩) all all), (9, .slice (some ⟨pt, 0, none⟩) all all)] e9 ∧ Chg [bt] w wr ∧ Rd F wr 7 (some ⟨gA, off, none⟩) l.length (List.flatten css) ∧ N8r F wr l css ∧ Blk wr b1 (n8C k s lz (some ⟨gA, off, none⟩) l.length c) 73 ∧ Blk wr bt (U9 all bs) 24 ∧ RowsB G wr all bs T ∧ Blk wr pf (H6 fr) 3 ∧ Blk wr pt (H6 to) 3 ∧ to.length = all ∧ rangeOk to ∧ w.heap.size ≤ pt) ?_ ?_)
   ·refine Qd (Fa Aq7 rfl (Lb o3 rfl ‹_› (by rfl) ?_))
    refine Zc 1 rfl (A4 rfl (fun q2 => ?_) (fun q2 => ?_))
    ·try simp at q2
     have hl22 : l.length = 2:=by rcases hk with h | h | h | h <;> omega
     have hp2 : H3 l = D8 (l.getD 0 default) + D8 (l.getD 1 default):=by
      match l, hl22 with
      | [a, b], _ => simp [H3]
     have hlen1:=hlen1 (by omega)
     have hI1:=hI.get 1 (by omega)
     refine C6 (S:=[]) 12 [(0, 0), (0, 1), (0, 2), (0, 3), (0, 4), (0, 5), (0, 6), (0, 7), (0, 8), (0, 11), (1, 9), (0, 10), (2, 12), (2, 13)] mo (by kernel_rfl) ?_
     intro w4 hx4 hh4
     have hr:=hr.u hx4
     have hI:=hI.u hx4
     have hB1:=hB1.u hx4
     have hI0:=hI0.u hx4
     have hCS4:=A8 ([]) w4
     obtain ⟨_, _, hAE, _, hlt, hcell⟩:=hr.at_ (by omega)
     cases hAE
     refine Fa M7 rfl (D5 rfl (B2 o71 rfl ‹_› (by simp; done) (by rfl)) ?_)
     refine D5 rfl (B9 Ah3 rfl rfl (by omega) (by omega)) (D5 rfl (J0 (vs:=css.getD 1 []) K4 rfl ⟨hlt, fun j v hj => by rw [Dt1]; exact hcell (1 * 7 + j) v (hI.row 1 (by omega) j v hj)⟩ (by simp; done) hlen1) ?_)
     refine Z 1 rfl (Fa M7 rfl (D5 rfl (B2 o71 rfl ‹_› (by simp; done) (by rfl)) ?_))
     refine D5 rfl (B9 Ah3 rfl rfl (by omega) (by omega)) (D5 rfl (J0 (vs:=css.getD 0 []) K4 rfl ⟨hlt, fun j v hj => by rw [Dt1]; exact hcell (0 * 7 + j) v (hI.row 0 (by omega) j v hj)⟩ (by simp; done) hlen0) ?_)
     refine Z 1 rfl (C4 rfl (C0 fb58 rfl) (Ac4 l hb 0 (by omega) (css.getD 0 []) F _ (fun z hz => by have:=hF z hz; omega) hI0) ?_)
     rintro _ w5 ⟨rfl, hx5⟩
     have hz5:=hx5.size
     have hI1:=hI1.u (hx4.s0 hx5)
     have hCS4:=hCS4.s0 hx5
     refine ⟨hCS4, ?_⟩
     refine Ad rfl rfl (by omega) (Ca Ca7 rfl (Ar0 l hg hb 1 (by omega) (css.getD 1 []) F _ (at_ + D8 (l.getD 0 default)) all false (by omega) hall (fun z hz => by have:=hF z hz; omega) hI1) ?_)
     rintro _ w6 ⟨hx6, pt2, rfl, hpt2, hBo2⟩
     have hC:=hC.s0 ((hx4.s0 hx5).s0 hx6)
     have hr:=hr.u (hx5.s0 hx6)
     have hI:=hI.u (hx5.s0 hx6)
     have hB1:=hB1.u (hx5.s0 hx6)
     have hBt:=hBt.u ((hx4.s0 hx5).s0 hx6)
     have hRo:=hRo.u ((hx4.s0 hx5).s0 hx6)
     have hBf:=hBf.u ((hx4.s0 hx5).s0 hx6)
     have hok1:=hOk 1 (by omega) (at_ + D8 (l.getD 0 default)) all false
     rw [Dr2 q2] at hte
     rw [hte] at hBo2 hok1
     refine Zc 1 rfl ⟨pt2, sb rfl, ?_⟩
     exact ⟨hC, hr, hI, hB1, hBt, hRo, hBf, hBo2, hok1.1, hok1.2, by omega⟩
    ·try simp at q2
     rw [Dr1 q2] at hte
     rw [hte] at hBo hok0t
     refine A7 ⟨pt, sb rfl, ?_⟩
     exact ⟨hC, hr, hI, hB1, hBt, hRo, hBf, hBo, hok0t.1, hok0t.2, by omega⟩
   rintro e9 w9 ⟨pt, hs9, hC, hr, hI, hB1, hBt, hRo, hBf, hBo, hto, hto2, hptw⟩
   refine I0 _ hs9 ?_
   clear hs9 e9
   have hfr:=hok0f
   try have hlRo:=hRo.lt
   have hlT:=hRo.lt
   refine Qd (Zc 1 rfl (B0 (D7 (σ:=Nat × List Nat) (fun (p, bs) => [(1, .int .i64 (at_ : Nat)), (2, .int .i64 (all : Nat)), (3, .slice (some ⟨bt, 0, none⟩) all all), (4, .pointer (some ⟨b1, 0, none⟩)), (8, .slice (some ⟨pf, 0, none⟩) all all), (9, .slice (some ⟨pt, 0, none⟩) all all), (10, .int .i64 (p : Nat))]) (fun (p, bs) wr => Chg [bt] w wr ∧ Rd F wr 7 (some ⟨gA, off, none⟩) l.length (List.flatten css) ∧ N8r F wr l css ∧ Blk wr b1 (n8C k s lz (some ⟨gA, off, none⟩) l.length c) 73 ∧ Blk wr bt (U9 all bs) 24 ∧ RowsB G wr all bs (addL T to fr p) ∧ Blk wr pf (H6 fr) 3 ∧ Blk wr pt (H6 to) 3 ∧ p ≤ all) (fun (p, bs) wr => all - p) (0, bs) (sb rfl) ?_ ?_)))
   ·exact ⟨hC, hr, hI, hB1, hBt, by rw [Dp5]; exact hRo, hBf, hBo, Ds0 _⟩
   rintro ⟨p, bs⟩ w10 ⟨hC, hr, hI, hB1, hBt, hRo, hBf, hBo, hp⟩
   try have hlBt:=hBt.lt
   try have hlRo:=hRo.lt
   try have hlBf:=hBf.lt
   refine Qa (Qd (Zc 3 rfl (A4 rfl (fun g1 => ?_) (fun g1 => ?_))))
   ·try simp at g1
    have hpa : p < all:=by omega
    have hlb:=hRo.lb
    have hfp:=hfr.2.get p
    refine A7 (Qa (B0 (C6 (S:=[]) 12 [(0, 0), (0, 1), (0, 2), (0, 3), (0, 4), (0, 5), (0, 6), (0, 7), (0, 8), (0, 9), (0, 10), (1, 11), (2, 12), (2, 13)] mo (by kernel_rfl) ?_)))
    intro w7 hx7 hh7
    have hBt:=hBt.u hx7
    have hRo:=hRo.u hx7
    have hBf:=hBf.u hx7
    have hBo:=hBo.u hx7
    have hCS7:=A8 ([]) w7
    obtain ⟨hne, hBp, hlp, hrp⟩:=hRo.row p hpa
    rw [addL_get _ _ _ _ _ (by omega), Dr1 (by omega)] at hBp hlp hrp
    refine Z 4 rfl (D5 rfl (B3 sl25 rfl rfl (by omega) (by omega)) (D5 rfl (E5 o24 rfl (by rw [hBt.cell, Dt2]; exact Bw6 all bs p (by omega)) (by simp; done)) ?_))
    refine Z 3 rfl (D5 rfl (B3 T3 rfl rfl (by omega) (by omega)) (D5 rfl (E5 o3 rfl (by rw [hBf.cell, Dt2]; exact K2 fr p (by omega)) (by simp; done)) ?_))
    refine C4 rfl (C0 fb136 rfl) (Bp5 (T.getD p []) to (fr.getD p 0) all _ pt _ hlp hto (by omega) hrp hto2 hfp.2 hBp hBo) ?_
    rintro _ w8 ⟨hx8, pq, rfl, hpq, hBq⟩
    have hBt:=hBt.u hx8
    have hCS7:=hCS7.s0 hx8
    refine ⟨hCS7, ?_⟩
    refine C7 rfl (B3 sl25 rfl rfl (by omega) (by omega)) (Pb (cs':=(U9 all (bs.set p pq))) sz24 rfl rfl hBt rfl rfl rfl (by rw [Ao9, Dw7]; omega) (by rw [Ds1, Dt2, U8 _ _ _ (by rw [Ao9]; omega), De6]) ?_)
    intro w9 hs9 hx9 hBt
    have hC:=hC.step ((hx7.j hx8).j hx9) (by simp <;> omega)
    have hr:=hr.q ((hx7.j hx8).j hx9) (by simp <;> omega)
    have hI:=hI.q ((hx7.j hx8).j hx9) (by simp <;> omega)
    have hB1:=hB1.q ((hx7.j hx8).j hx9) (by simp <;> omega)
    have hRo:=hRo.q (hx8.j hx9) (by simp <;> omega)
    have hBf:=hBf.q (hx8.j hx9) (by simp <;> omega)
    have hBo:=hBo.q (hx8.j hx9) (by simp <;> omega)
    have hBq:=hBq.q hx9 (by simp; omega)
    refine Qc (Qb (Z 1 rfl (Ad rfl rfl (by omega) (Zc 1 rfl ⟨(p + 1, bs.set p pq), sb rfl, ?_, ?_⟩))))
    refine ⟨hC, hr, hI, hB1, hBt, ?_, hBf, hBo, hpa⟩
    rw [← addL_set T to fr p (by omega)]
    exact hRo.put hpa hBq (hGn _ (by omega)) (by rw [Ap3]; exact hlp) (Ay7 _ _ _)
    show all - (p + 1) < all - p
    omega
   ·try simp at g1
    have hpp : p = all:=by omega
    subst hpp
    refine Xb ⟨bs, sb rfl, ?_⟩
    refine ⟨hC, hr, hI, hB1, hBt, ?_⟩
    unfold folK addR
    rw [Dr2 q24, hte, hfe, hlT]
    exact hRo
  ·try simp at q24
   refine A7 ⟨bs, sb rfl, ?_⟩
   refine ⟨hC, hr, hI, hB1, hBt, ?_⟩
   unfold folK
   rw [Dr1 (by simpa using q24)]
   exact hRo
 rintro e9 w9 ⟨bs, hs9, hC, hr, hI, hB1, hBt, hRo⟩
 refine I0 _ hs9 ?_
 clear hs9 e9
 try have hlRo:=hRo.lt
 generalize hR : folG l (Bi2 l) at_ all (folK k l at_ all T) = R
 generalize folK k l at_ all T = T1 at *
 have hat2 : at_ + H3 l ≤ all:=by
  by_cases hk1 : k = 1
  ·have : l.length = 0:=by rcases hk with h | h | h | h <;> omega
   rw [Dy0.1 this, H3]
   omega
  ·rw [Dr1 hk1] at hat; exact hat
 refine Qd (Zc 1 rfl (B0 (D7 (σ:=Nat × Nat × List Nat × List (List Int)) (fun (i, a, bs, T2) => [(1, .int .i64 (a : Nat)), (2, .int .i64 (all : Nat)), (3, .slice (some ⟨bt, 0, none⟩) all all), (4, .pointer (some ⟨b1, 0, none⟩)), (11, .int .i64 (i : Nat))]) (fun (i, a, bs, T2) wr => Chg [bt] w wr ∧ Rd F wr 7 A l.length (List.flatten css) ∧ N8r F wr l css ∧ Blk wr b1 (n8C k s lz A l.length c) 73 ∧ Blk wr bt (U9 all bs) 24 ∧ RowsB G wr all bs T2 ∧ folG (l.drop i) (Bi2 (l.drop i)) a all T2 = R ∧ a + H3 (l.drop i) ≤ all ∧ i ≤ l.length) (fun (i, a, bs, T2) wr => l.length - i) (0, at_, bs, T1) (sb rfl) ?_ ?_)))
 ·exact ⟨hC, hr, hI, hB1, hBt, hRo, hR, hat2, Ds0 _⟩
 rintro ⟨i, a, bs, T2⟩ w10 ⟨hC, hr, hI, hB1, hBt, hRo, hR, ha, hi⟩
 try have hlB1:=hB1.lt
 try have hlRo:=hRo.lt
 refine Qa (Qd (Z 1 rfl (Fa M7 rfl (Lb o71 rfl ‹_› (by rfl) ?_))))
 refine Ln Tryz.underlying71 rfl (Zc 1 rfl (A4 rfl (fun g1 => ?_) (fun g1 => ?_)))
 ·try simp at g1
  have hin : i < l.length:=by omega
  have hIi:=hI.get i hin
  have hlen:=hIi.len
  have hpd:=Ap4 l i hin
  obtain ⟨gA, off, rfl, hFg, hlt, hcell⟩:=hr.at_ (by omega)
  refine A7 (Qa (B0 (Qd (Fa M7 rfl (Lb o71 rfl ‹_› (by rfl) ?_)))))
  refine Z 1 rfl (C7 rfl (B9 Ah3 rfl rfl (by omega) (by omega)) (C7 rfl (E4 (vs:=css.getD i []) K4 rfl (E9 _) (fun j v hj => by rw [Dt1]; exact hcell (i * 7 + j) v (hI.row i hin j v hj)) hlen) ?_))
  refine Z 3 rfl (Ca fb101 rfl (hc i hin (css.getD i []) F _ a all bt bs T2 G hGb (fun x hx => hGn x (by omega)) (by omega) hall (fun z hz => by have:=hF z hz; omega) hFb hIi hBt hRo) ?_)
  rintro _ w10 ⟨hx10, bs2, hBt', hRo'⟩
  have hz10:=hx10.size
  have hr:=hr.q hx10 (by simp; omega)
  have hI:=hI.q hx10 (by simp; omega)
  have hB1:=hB1.q hx10 (by simp; omega)
  have hIi:=hIi.q hx10 (by simp; omega)
  clear hBt
  have hBt:=hBt'; clear hBt'
  clear hRo
  have hRo:=hRo'; clear hRo'
  obtain ⟨_, _, hAE, _, hlt2, hcell2⟩:=hr.at_ (by omega)
  cases hAE
  refine Qc (Qb (Z 1 rfl (Fa M7 rfl (Lb o71 rfl ‹_› (by rfl) ?_))))
  refine Z 1 rfl (C7 rfl (B9 Ah3 rfl rfl (by omega) (by omega)) (C7 rfl (E4 (vs:=css.getD i []) K4 rfl (E9 _) (fun j v hj => by rw [Dt1]; exact hcell2 (i * 7 + j) v (hI.row i hin j v hj)) hlen) ?_))
  refine Ca fb58 rfl (Ac4 l hb i hin (css.getD i []) F _ (fun z hz => by have:=hF z hz; omega) hIi) ?_
  rintro _ w11 ⟨rfl, hx11⟩
  have hC:=hC.step (hx10.j hx11) (by simp <;> omega)
  have hr:=hr.u hx11
  have hI:=hI.u hx11
  have hB1:=hB1.u hx11
  have hBt:=hBt.u hx11
  have hRo:=hRo.u hx11
  refine Ad rfl rfl (by omega) (Zc 1 rfl (Qb (Z 1 rfl (Ad rfl rfl (by omega) (Zc 1 rfl ⟨(i + 1, a + D8 (l.getD i default), bs2, folR (l.getD i default) a all T2), sb rfl, ?_, ?_⟩)))))
  exact ⟨hC, hr, hI, hB1, hBt, hRo, by rw [← Dk5 l i hin]; exact hR, by omega, hin⟩
  show l.length - (i + 1) < l.length - i
  omega
 ·try simp at g1
  have hii : i = l.length:=by omega
  subst hii
  rw [List.drop_length, folG_end] at hR
  subst hR
  exact Xb (Q1 rfl ⟨hC, bs, hBt, hRo⟩)
mutual
theorem folR_c : ∀ t : R8, G8 t → n8s t ≤ 100000 → FolRC t
 | .node k s lz l, h, hn => by
  rw [G8] at h
  rw [n8s] at hn
  exact fol_step k s lz l h.1 h.2 (by omega) (Dk4 l h.2 (by omega))
theorem Dk4 : ∀ l : List R8, G8s l → n8l l ≤ 100000 → ∀ i, i < l.length → FolRC (l.getD i default)
 | [], _, _, i, hi => absurd hi (by simp)
 | t :: r, h, hn, 0, _ => by rw [G8s] at h; rw [n8l] at hn; exact folR_c t h.1 (by omega)
 | t :: r, h, hn, i + 1, hi => by rw [G8s] at h; rw [n8l] at hn; rw [Ds7]; exact Dk4 r h.2 (by omega) i (by simpa using hi)
end
structure PreB (G : Nat → Prop) (w : World) (all p : Nat) (bs : List Nat) : Prop where
 lb : bs.length = p
 row : ∀ x, x < p → G (bs.getD x 0) ∧ Blk w (bs.getD x 0) (H6 (List.replicate all 0)) 3
theorem PreB.q {G : Nat → Prop} {w w' : World} {all p : Nat} {bs : List Nat} {S : List Nat} (h : PreB G w all p bs) (c : Chg S w w') (hS : ∀ b ∈ S, ¬ G b) : PreB G w' all p bs :=
 ⟨h.lb, fun x hx => ⟨(h.row x hx).1, (h.row x hx).2.q c fun hm => hS _ hm (h.row x hx).1⟩⟩
theorem PreB.u {G : Nat → Prop} {w w' : World} {all p : Nat} {bs : List Nat} (h : PreB G w all p bs) (c : Chg [] w w') : PreB G w' all p bs:=h.q c (fun b hb => by cases hb)
theorem PreB.snoc {G : Nat → Prop} {w : World} {all p b : Nat} {bs : List Nat} (h : PreB G w all p bs) (hG : G b) (hB : Blk w b (H6 (List.replicate all 0)) 3) : PreB G w all (p + 1) (bs ++ [b]):=by
 refine ⟨by rw [Dr7, h.lb]; rfl, fun x hx => ?_⟩
 by_cases hc : x < p
 ·have:=h.row x hc
  rw [Dr3, Du1 (by rw [h.lb]; exact hc), ← Dr3]
  exact this
 ·have : x = bs.length:=by rw [h.lb]; omega
  subst this
  rw [Dr3, Dt8 (Ds3 _)]
  simp
  exact ⟨hG, hB⟩
theorem PreB.all {G : Nat → Prop} {w : World} {all : Nat} {bs : List Nat} (h : PreB G w all all bs) : RowsB G w all bs (List.replicate all (List.replicate all 0)) :=
 ⟨h.lb, by simp, fun p hp => by
  have e : (List.replicate all (List.replicate all (0 : Int))).getD p [] = List.replicate all 0:=by simp [Dr3, hp]
  rw [e]
  exact ⟨(h.row p hp).1, (h.row p hp).2, by simp, Ai1 _⟩⟩
theorem pre_put (all p b : Nat) (bs : List Nat) (hl : bs.length = p) (h : p < all) : (U9 all bs ++ List.replicate (all - p) (Value.slice none 0 0)).take p ++ [Value.slice (some ⟨b, 0, none⟩) all all] ++ (U9 all bs ++ List.replicate (all - p) (Value.slice none 0 0)).drop (p + 1) = U9 all (bs ++ [b]) ++ List.replicate (all - (p + 1)) (Value.slice none 0 0):=by
 have h1 : (U9 all bs).length = p:=by rw [Ao9, hl]
 rw [List.take_append_of_le_length (by omega), Du8 (by omega), List.drop_append, List.drop_eq_nil_of_le (by omega), h1, show p + 1 - p = 1 by omega, List.drop_replicate, show all - p - 1 = all - (p + 1) by omega]
 simp [U9]
def An2 (t : R8) : List (List Int):=folR t 0 (D8 t) (List.replicate (D8 t) (List.replicate (D8 t) 0))
theorem Bw9 (t : R8) (hg : G8 t) (hn : n8s t ≤ 100000) (cs : List Value) (F : Nat → Prop) (w : World) (hF : ∀ x, F x → x < w.heap.size) (hN : N8 F w t cs) : Calls P 72 #[.agg cs.toArray] w (Ret fun u w' => Chg [] w w' ∧ ∃ bt bs, u = .slice (some ⟨bt, 0, none⟩) (D8 t) (D8 t) ∧ w.heap.size ≤ bt ∧ Blk w' bt (U9 (D8 t) bs) 24 ∧ RowsB (fun x => w.heap.size ≤ x) w' (D8 t) bs (An2 t)):=by
 have hC:=A8 [] w
 have hpl:=Ac5 t
 have hone:=hN.one1
 obtain ⟨a0, a1, a2, a3, a4, a5, a6, rfl⟩:=hN.cells
 unfold An2
 refine D3 Tryz.func72 rfl rfl (Qd (B4 rfl (E0 rfl rfl) ?_))
 intro b1 w1 hb1 hs1 hx1 hB1
 have hN:=hN.u hx1
 refine Zc 1 rfl (Qd (La K4 rfl ‹_› rfl rfl ?_))
 refine Ca fb58 rfl (Ai3 t hn _ F _ (fun z hz => by have:=hF z hz; omega) hN) ?_
 rintro _ w2 ⟨rfl, hx2⟩
 have hz2:=hx2.size
 generalize hall : D8 t = all at *
 refine Zc 1 rfl (Qd (Z 1 rfl (B4 rfl (L8 el25 zr24 rfl (cs:=List.replicate all (.slice none 0 0)) (by omega) (by omega) (by show (madeCells #[_] (((all : Nat) : Int).toNat * 1)).toList = _; rw [Ds1, Dv1, P9])) ?_)))
 intro b3 w3 hb3 hs3 hx3 hB3
 have hC:=hC.s0 ((hx1.s0 hx2).s0 hx3)
 have hN:=hN.u (hx2.s0 hx3)
 have hB1:=hB1.u (hx2.s0 hx3)
 have hBt : Blk w3 b3 (U9 all [] ++ List.replicate (all - 0) (.slice none 0 0)) 24:=by simpa [U9] using hB3
 refine Zc 1 rfl (Qa (Qd (Zc 1 rfl (B0 (D7 (σ:=Nat × List Nat) (fun (p, bs) => [(1, .pointer (some ⟨b1, 0, none⟩)), (3, .int .i64 (all : Nat)), (4, .slice (some ⟨b3, 0, none⟩) all all), (5, .int .i64 (p : Nat))]) (fun (p, bs) wr => Chg [] w wr ∧ N8 F wr t [a0, a1, a2, a3, a4, a5, a6] ∧ Blk wr b1 [a0, a1, a2, a3, a4, a5, a6] 73 ∧ Blk wr b3 (U9 all bs ++ List.replicate (all - p) (Value.slice none 0 0)) 24 ∧ PreB (fun x => b3 < x) wr all p bs ∧ p ≤ all) (fun (p, bs) wr => all - p) (0, []) (sb rfl) ?_ ?_)))))
 ·exact ⟨hC, hN, hB1, hBt, ⟨rfl, fun x hx => by omega⟩, Ds0 _⟩
 rintro ⟨p, bs⟩ w9 ⟨hC, hN, hB1, hBt, hPr, hp⟩
 have hlt3:=hBt.lt
 refine Qa (Qd (Zc 3 rfl (A4 rfl (fun h1 => ?_) (fun h1 => ?_))))
 ·try simp at h1
  have hpa : p < all:=by omega
  have hlb:=hPr.lb
  refine A7 (Qa (B0 (Qb (Z 3 rfl (B4 rfl (L8 Cr7 zr3 rfl (cs:=H6 (List.replicate all 0)) (by omega) (by omega) (by show (madeCells #[_] (((all : Nat) : Int).toNat * 1)).toList = _; rw [Ds1, Dv1, P9]; simp [H6])) ?_)))))
  intro b4 w4 hb4 hs4 hx4 hB4
  have hN:=hN.u hx4
  have hBt:=hBt.u hx4
  have hFS : ∀ b ∈ [b3], ¬ F b:=fun b hb h => by have:=hF b h; simp at hb; omega
  refine C7 rfl (B3 sl25 rfl rfl (by omega) (by omega)) (Pb (cs':=(U9 all (bs ++ [b4]) ++ List.replicate (all - (p + 1)) (Value.slice none 0 0))) sz24 rfl rfl hBt rfl rfl rfl (by rw [Dr7, Ao9, Du6, Dw7]; omega) (by rw [Ds1, Dt2]; exact pre_put all p b4 bs hlb hpa) ?_)
  intro w5 hs5 hx5 hBt
  have hC:=hC.step (hx4.j hx5) (by simp <;> omega)
  have hN:=hN.q hx5 ‹_›
  have hB1:=hB1.q (hx4.j hx5) (by simp <;> omega)
  have hPr:=hPr.q (hx4.j hx5) (by simp <;> omega)
  have hB4:=hB4.q hx5 (by simp; omega)
  refine Qc (Qb (Z 1 rfl (Ad rfl rfl (by omega) (Zc 1 rfl ⟨(p + 1, bs ++ [b4]), sb rfl, ?_, ?_⟩))))
  exact ⟨hC, hN, hB1, hBt, hPr.snoc (by omega) ‹_›, hpa⟩
  show all - (p + 1) < all - p
  omega
 ·try simp at h1
  have hpp : p = all:=by omega
  subst hpp
  rw [Nat.sub_self, List.replicate_zero, Dx4] at hBt
  have hRo:=hPr.all
  try have hlRo:=hRo.lt
  refine Xb (Qd (La K4 rfl ‹_› rfl rfl ?_))
  refine Z 2 rfl (Ca fb101 rfl (folR_c t hg hn _ F _ 0 p b3 bs (List.replicate p (List.replicate p 0)) (fun x => b3 < x) (by omega) (fun x hx => by omega) (by omega) (by omega) (fun z hz => by have:=hF z hz; omega) (fun h => by have:=hF _ h; omega) hN hBt hRo) ?_)
  rintro _ w6 ⟨hx6, bs2, hBt', hRo'⟩
  have hC:=hC.step hx6 (by simp; omega)
  clear hBt
  have hBt:=hBt'; clear hBt'
  clear hRo
  have hRo:=hRo'; clear hRo'
  exact Qc (Qd (Zc 2 rfl (A6 (B1 rfl rfl ⟨hC, b3, bs2, rfl, by omega, hBt, hRo.mono fun b h _ => by omega⟩))))
theorem rsum_n (l : List Int) (n b : Nat) (w : World) (hn : l.length = n) (hl : n ≤ 1000000) (hB0 : Blk w b (H6 l) 3) : Calls P 93 #[.slice (some ⟨b, 0, none⟩) n n] w (Ret fun u w' => u = .int .i64 (sumR l) ∧ Chg [] w w'):=by
 subst hn
 exact rsum_c l b w hl hB0
theorem Bj0 (l : List Int) : 0 ≤ sumR l ∧ sumR l ≤ 2000:=Bj1 l 0 (by omega)
def Bd3 (t : R8) (i : Nat) : Bool:=decide (300 < sumR ((An2 t).getD i []) + min ((Z8 t 0 (D8 t) true).getD i 0) 1000)
def Ca0 (t : R8) : Bool:=Bc9 t || decide (300 < sumR (Z8 t 0 (D8 t) false) + min (Ag4 t) 1000) || (List.range (D8 t)).any (Bd3 t)
theorem any_succ (f : Nat → Bool) (i : Nat) : (List.range (i + 1)).any f = ((List.range i).any f || f i):=by
 rw [Dt4, List.any_append]; simp
theorem idle_c (t : R8) (hg : G8 t) (hn : n8s t ≤ 100000) (cs : List Value) (F : Nat → Prop) (w : World) (hF : ∀ x, F x → x < w.heap.size) (hN : N8 F w t cs) : Calls P 60 #[.agg cs.toArray] w (Ret fun u w' => u = .bool (Ca0 t) ∧ Chg [] w w'):=by
 have hC:=A8 [] w
 have hpl:=Ac5 t
 have hone:=hN.one1
 have hv:=R9 t
 obtain ⟨a0, a1, a2, a3, a4, a5, a6, rfl⟩:=hN.cells
 have hok:=Cr5 t hg
 refine D3 Tryz.func60 rfl rfl (Qd (B4 rfl (E0 rfl rfl) ?_))
 intro b1 w1 hb1 hs1 hx1 hB1
 refine Zc 1 rfl (Qa (C6 (S:=[]) 3 [(0, 0), (0, 2), (1, 1), (2, 3), (2, 4), (2, 5)] mo (by kernel_rfl) ?_))
 intro w2 hx2 hh2
 have hN:=hN.u (hx1.s0 hx2)
 have hB1:=hB1.u hx2
 have hCS2:=A8 ([]) w2
 refine D5 rfl (B8 K4 rfl ‹_› (by simp; done) rfl rfl) ?_
 refine D5 rfl (B8 K4 rfl ‹_› (by simp; done) rfl rfl) ?_
 refine C4 rfl (C0 fb71 rfl) (Co0 t hg hn _ F _ (fun z hz => by have:=hF z hz; omega) hN) ?_
 rintro _ w3 ⟨hx3, pl, rfl, hpl2, hBl⟩
 have hN:=hN.u hx3
 have hCS2:=hCS2.s0 hx3
 refine ⟨hCS2, ?_⟩
 try have hlBl:=hBl.lt
 refine Ca fb72 rfl (Bw9 t hg hn _ F _ (fun z hz => by have:=hF z hz; omega) hN) ?_
 rintro _ w4 ⟨hx4, bt, bs, rfl, hbt2, hBt, hRo⟩
 try have hlBt:=hBt.lt
 try have hlRo:=hRo.lt
 refine Zc 2 rfl (Qa (Qa (C6 (S:=[]) 7 [(0, 0), (1, 1), (0, 2), (0, 3), (0, 6), (1, 4), (1, 5), (2, 7), (2, 8), (2, 9), (2, 10), (2, 11)] mo (by kernel_rfl) ?_)))
 intro w5 hx5 hh5
 have hN:=hN.u (hx4.s0 hx5)
 have hB1:=hB1.u ((hx3.s0 hx4).s0 hx5)
 have hCS5:=A8 ([]) w5
 have hB1a:=hB1
 refine D5 rfl (B8 K4 rfl ‹_› (by simp; done) rfl rfl) ?_
 refine C4 rfl (C0 fb92 rfl) (Cq2 t hg _ F _ (fun z hz => by have:=hF z hz; omega) hN) ?_
 rintro _ w6 ⟨rfl, hx6⟩
 have hz6:=hx6.size
 have hC:=hC.s0 (((((hx1.s0 hx2).s0 hx3).s0 hx4).s0 hx5).s0 hx6)
 have hN:=hN.u hx6
 have hBl:=hBl.u ((hx4.s0 hx5).s0 hx6)
 have hBt:=hBt.u (hx5.s0 hx6)
 have hRo:=hRo.u (hx5.s0 hx6)
 have hCS5:=hCS5.s0 hx6
 refine ⟨hCS5, ?_⟩
 refine Z 1 rfl (B7 (d:=12) rfl (fun g1 => ?_) (fun g1 => ?_))
 ·try simp at g1
  refine Qk rfl (Qk rfl (Dq4 rfl rfl rfl rfl rfl (fun _ => by assumption) ?_))
  refine Dq4 rfl rfl rfl rfl rfl (fun _ => by assumption) ?_
  exact Qk rfl (Qk rfl (Qk rfl (Qk rfl (Zc 1 rfl (E1 rfl (Qd (Zc 1 rfl (A6 (B1 rfl rfl ⟨H9 (by unfold Ca0; rw [g1]; rfl), hC⟩)))))))))
 ·try simp at g1
  refine Qu rfl (D5 rfl (B8 K4 rfl ‹_› (by simp; done) rfl rfl) ?_)
  refine Qu rfl (D5 rfl (B8 K4 rfl ‹_› (by simp; done) rfl rfl) ?_)
  refine Qu rfl (C4 rfl (C0 fb70 rfl) (Bx0 t hg hn _ F _ (fun z hz => by have:=hF z hz; omega) hN) ?_)
  rintro _ w7 ⟨hx7, pf, rfl, hpf2, hBf⟩
  have hCS5:=hCS5.s0 hx7
  refine ⟨hCS5, ?_⟩
  try have hlBf:=hBf.lt
  refine Qu rfl (C4 rfl (C0 fb93 rfl) (rsum_n _ (D8 t) pf _ (hok 0 (D8 t) false).1 (by omega) hBf) ?_)
  rintro _ w8 ⟨rfl, hx8⟩
  have hz8:=hx8.size
  have hN:=hN.u (hx7.s0 hx8)
  have hCS5:=hCS5.s0 hx8
  refine ⟨hCS5, ?_⟩
  have hs1:=Bj0 (Z8 t 0 (D8 t) false)
  refine Qu rfl (Ca fb69 rfl (Ce8 t hg _ F _ (fun z hz => by have:=hF z hz; omega) hN) ?_)
  rintro _ w9 ⟨rfl, hx9⟩
  have hC:=hC.s0 ((hx7.s0 hx8).s0 hx9)
  have hBl:=hBl.u ((hx7.s0 hx8).s0 hx9)
  have hBt:=hBt.u ((hx7.s0 hx8).s0 hx9)
  have hRo:=hRo.u ((hx7.s0 hx8).s0 hx9)
  refine Qu rfl (C7 rfl (V7 rfl rfl) (Qu rfl (Ad rfl rfl (by omega) (Qu rfl (Zc 2 rfl (A4 rfl (fun g2 => ?_) (fun g2 => ?_)))))))
  ·rw [cmpB_gtr] at g2
   exact Qd (Zc 1 rfl (A6 (B1 rfl rfl ⟨H9 (by unfold Ca0; rw [g1, Ds2 g2]; rfl), hC⟩)))
  ·rw [cmpB_gtrF] at g2
   have hE : Ca0 t = (List.range (D8 t)).any (Bd3 t):=by unfold Ca0; rw [g1, Ds4 (p:=300 < _) (by omega), Dy7, Dy7]
   rw [hE]
   refine A7 (Qa (Qd (Zc 1 rfl (B0 (D7 (σ:=Nat) (fun i => [(1, .pointer (some ⟨b1, 0, none⟩)), (3, .slice (some ⟨pl, 0, none⟩) (D8 t) (D8 t)), (4, .slice (some ⟨bt, 0, none⟩) (D8 t) (D8 t)), (5, .int .i64 (i : Nat))]) (fun i wr => Chg [] w wr ∧ Blk wr pl (H6 (Z8 t 0 (D8 t) true)) 3 ∧ Blk wr bt (U9 (D8 t) bs) 24 ∧ RowsB (fun _ => True) wr (D8 t) bs (An2 t) ∧ (List.range i).any (Bd3 t) = false ∧ i ≤ D8 t) (fun i wr => D8 t - i) 0 (sb rfl) ?_ ?_)))))
   ·exact ⟨hC, hBl, hBt, hRo.mono fun _ _ _ => trivial, rfl, Ds0 _⟩
   rintro i w9 ⟨hC, hBl, hBt, hRo, hany, hi⟩
   refine Qa (Qd (Z 2 rfl (Ln Tryz.underlying25 rfl (Z 2 rfl (B7 (d:=26) rfl (fun h1 => ?_) (fun h1 => ?_))))))
   ·try simp at h1
    refine Qu rfl (Z 1 rfl (Qu rfl (Z 1 rfl (Qu rfl (Ln Tryz.underlying24 rfl (Qu rfl (Zc 2 rfl (A4 rfl (fun h2 => ?_) (fun h2 => ?_)))))))))
    ·try simp at h2
     have hin : i < D8 t:=by omega
     have hokl:=hok 0 (D8 t) true
     have hlv:=hokl.2.get i
     refine A7 (Qa (B0 (Qa (C6 (S:=[]) 10 [(0, 0), (0, 1), (0, 2), (0, 3), (0, 5), (0, 6), (0, 7), (0, 8), (0, 9), (1, 4), (2, 10), (2, 11)] mo (by kernel_rfl) ?_))))
     intro w10 hx10 hh10
     have hBl:=hBl.u hx10
     have hBt:=hBt.u hx10
     have hRo:=hRo.u hx10
     have hCS10:=A8 ([]) w10
     obtain ⟨_, hBp, hlp, hrp⟩:=hRo.row i hin
     refine Z 2 rfl (D5 rfl (B3 sl25 rfl rfl (by omega) (by omega)) (D5 rfl (E5 o24 rfl (by rw [hBt.cell, Dt2]; exact Bw6 _ bs i (by rw [hRo.lb]; omega)) (by simp; done)) ?_))
     refine Z 2 rfl (D5 rfl (B3 T3 rfl rfl (by omega) (by omega)) (D5 rfl (E5 o3 rfl (by rw [hBl.cell, Dt2]; exact K2 _ i (by rw [hokl.1]; omega)) (by simp; done)) ?_))
     refine D5 rfl (V7 rfl rfl) (C4 rfl (C0 fb93 rfl) (rsum_n ((An2 t).getD i []) (D8 t) _ _ hlp (by omega) hBp) ?_)
     rintro _ w11 ⟨rfl, hx11⟩
     have hC:=hC.s0 (hx10.s0 hx11)
     have hBl:=hBl.u hx11
     have hBt:=hBt.u hx11
     have hRo:=hRo.u hx11
     have hCS10:=hCS10.s0 hx11
     refine ⟨hCS10, ?_⟩
     have hs2:=Bj0 ((An2 t).getD i [])
     refine Ad rfl rfl (by omega) (Zc 1 rfl (A4 rfl (fun g3 => ?_) (fun g3 => ?_)))
     ·rw [cmpB_gtr] at g3
      have hat : Bd3 t i = true:=by unfold Bd3; rw [Ds2 g3]
      exact Qd (Zc 1 rfl (A6 (B1 rfl rfl ⟨H9 (Dy8.2 ⟨i, Du0.2 hin, hat⟩).symm, hC⟩)))
     ·rw [cmpB_gtrF] at g3
      have hat : Bd3 t i = false:=by unfold Bd3; rw [Ds4 (by omega)]
      refine A7 (Qb (Z 1 rfl (Ad rfl rfl (by omega) (Zc 1 rfl ⟨i + 1, sb rfl, ?_, ?_⟩))))
      exact ⟨hC, hBl, hBt, hRo, by rw [any_succ, hany, hat]; rfl, hin⟩
      show D8 t - (i + 1) < D8 t - i
      omega
    ·try simp at h2
     exfalso
     omega
   ·try simp at h1
    have hii : i = D8 t:=by omega
    subst hii
    exact Qk rfl (Qk rfl (Qk rfl (Qk rfl (Zc 1 rfl (E3 rfl (Xb (Qd (Zc 1 rfl (A6 (B1 rfl rfl ⟨H9 hany.symm, hC⟩))))))))))
def RAuto (F : Nat → Prop) (w : World) (t : R8) (cs : List Value) : Prop:=∃ As cS pf pl bt bs, cs = [.slice As (Am5 t).length cS, .int .i64 (Ag4 t), .slice (some ⟨pf, 0, none⟩) (D8 t) (D8 t), .slice (some ⟨pl, 0, none⟩) (D8 t) (D8 t), .slice (some ⟨bt, 0, none⟩) (D8 t) (D8 t)] ∧ Rd F w 4 As (Am5 t).length (F1 (Am5 t)) ∧ F pf ∧ Blk w pf (H6 (Z8 t 0 (D8 t) false)) 3 ∧ F pl ∧ Blk w pl (H6 (Z8 t 0 (D8 t) true)) 3 ∧ F bt ∧ Blk w bt (U9 (D8 t) bs) 24 ∧ RowsB F w (D8 t) bs (An2 t)
theorem RAuto.q {F : Nat → Prop} {w w' : World} {t : R8} {cs : List Value} {S : List Nat} (h : RAuto F w t cs) (c : Chg S w w') (hS : ∀ b ∈ S, ¬ F b) : RAuto F w' t cs:=by
 obtain ⟨As, cS, pf, pl, bt, bs, h1, h2, h3, h4, h5, h6, h7, h8, h9⟩:=h
 exact ⟨As, cS, pf, pl, bt, bs, h1, h2.q c hS, h3, h4.q c (fun hm => hS _ hm h3), h5, h6.q c (fun hm => hS _ hm h5), h7, h8.q c (fun hm => hS _ hm h7), h9.q c hS⟩
theorem RAuto.mono {F F' : Nat → Prop} {w : World} {t : R8} {cs : List Value} (h : RAuto F w t cs) (hF : ∀ b, F b → b < w.heap.size → F' b) : RAuto F' w t cs:=by
 obtain ⟨As, cS, pf, pl, bt, bs, h1, h2, h3, h4, h5, h6, h7, h8, h9⟩:=h
 exact ⟨As, cS, pf, pl, bt, bs, h1, h2.mono hF, hF _ h3 h4.lt, h4, hF _ h5 h6.lt, h6, hF _ h7 h8.lt, h8, h9.mono hF⟩
theorem RAuto.one1 {F : Nat → Prop} {w : World} {t : R8} {cs : List Value} (h : RAuto F w t cs) : cs.all Value.oneCell' = true:=by
 obtain ⟨As, cS, pf, pl, bt, bs, rfl, _⟩:=h
 rfl
theorem rauto_c (t : R8) (hg : G8 t) (hn : n8s t ≤ 100000) (cs : List Value) (F : Nat → Prop) (w : World) (hF : ∀ x, F x → x < w.heap.size) (hN : N8 F w t cs) : Calls P 38 #[.agg cs.toArray] w (Ret fun u w' => Chg [] w w' ∧ ∃ cs', u = .agg cs'.toArray ∧ RAuto (FR w.heap.size w'.heap.size []) w' t cs'):=by
 have hC:=A8 [] w
 have hone:=hN.one1
 obtain ⟨a0, a1, a2, a3, a4, a5, a6, rfl⟩:=hN.cells
 refine D3 Tryz.func38 rfl rfl (Qd (B4 rfl (E0 rfl rfl) ?_))
 intro b1 w1 hb1 hs1 hx1 hB1
 refine B4 rfl (B6 zr27 rfl) ?_
 intro b2 w2 hb2 hs2 hx2 hB2
 refine Qc (Qa (C6 (S:=[]) 9 [(0, 0), (0, 2), (0, 4), (0, 6), (0, 8), (1, 1), (1, 3), (1, 5), (1, 7), (2, 9), (2, 10), (2, 11)] mo (by kernel_rfl) ?_))
 intro w3 hx3 hh3
 have hN:=hN.u ((hx1.s0 hx2).s0 hx3)
 have hB1:=hB1.u (hx2.s0 hx3)
 have hCS3:=A8 ([]) w3
 refine D5 rfl (B8 K4 rfl ‹_› (by simp; done) rfl rfl) ?_
 refine D5 rfl (B8 K4 rfl ‹_› (by simp; done) rfl rfl) ?_
 refine D5 rfl (B8 K4 rfl ‹_› (by simp; done) rfl rfl) ?_
 refine D5 rfl (B8 K4 rfl ‹_› (by simp; done) rfl rfl) ?_
 refine D5 rfl (B8 K4 rfl ‹_› (by simp; done) rfl rfl) ?_
 refine C4 rfl (C0 fb68 rfl) (De0 t hn _ F _ (fun z hz => by have:=hF z hz; omega) hN) ?_
 rintro _ w4 ⟨hx4, As, cS, rfl, hrS⟩
 have hz4:=hx4.size
 have hN:=hN.u hx4
 have hCS3:=hCS3.s0 hx4
 refine ⟨hCS3, ?_⟩
 have hrS:=hrS.mono (F':=FR (b2 + 1) w4.heap.size []) (fun z h _ => ⟨by have:=h.1; omega, h.2.1, by simp⟩)
 refine C4 rfl (C0 fb69 rfl) (Ce8 t hg _ F _ (fun z hz => by have:=hF z hz; omega) hN) ?_
 rintro _ w5 ⟨rfl, hx5⟩
 have hz5:=hx5.size
 have hN:=hN.u hx5
 have hCS3:=hCS3.s0 hx5
 refine ⟨hCS3, ?_⟩
 refine C4 rfl (C0 fb70 rfl) (Bx0 t hg hn _ F _ (fun z hz => by have:=hF z hz; omega) hN) ?_
 rintro _ w6 ⟨hx6, pf, rfl, hpf2, hBf⟩
 have hN:=hN.u hx6
 have hCS3:=hCS3.s0 hx6
 refine ⟨hCS3, ?_⟩
 try have hlBf:=hBf.lt
 refine C4 rfl (C0 fb71 rfl) (Co0 t hg hn _ F _ (fun z hz => by have:=hF z hz; omega) hN) ?_
 rintro _ w7 ⟨hx7, pl, rfl, hpl2, hBl⟩
 have hN:=hN.u hx7
 have hCS3:=hCS3.s0 hx7
 refine ⟨hCS3, ?_⟩
 try have hlBl:=hBl.lt
 refine Ca fb72 rfl (Bw9 t hg hn _ F _ (fun z hz => by have:=hF z hz; omega) hN) ?_
 rintro _ w8 ⟨hx8, bt, bs, rfl, hbt2, hBt, hRo⟩
 have hB2:=hB2.u (((((hx3.s0 hx4).s0 hx5).s0 hx6).s0 hx7).s0 hx8)
 have hrS:=hrS.u (((hx5.s0 hx6).s0 hx7).s0 hx8)
 have hRo:=hRo.mono (G':=FR (b2 + 1) w8.heap.size []) (fun z h hzl => ⟨by omega, hzl, by simp⟩)
 refine C7 rfl (A9 zr27 pl27 rfl (by rfl)) ?_
 refine Pe sz27 rfl ‹_› rfl rfl ?_
 intro w9 hs9 hx9 hB2
 have hC:=hC.step ((((((((hx1.j hx2).j hx3).j hx4).j hx5).j hx6).j hx7).j hx8).j hx9) (by simp <;> omega)
 have hrS:=hrS.q hx9 (by intro x hx hf; have hx:=Dr4.1 hx; have h1:=hf.1; have h2:=hf.2.1; omega)
 have hBf:=hBf.q ((hx7.j hx8).j hx9) (by simp <;> omega)
 have hBl:=hBl.q (hx8.j hx9) (by simp <;> omega)
 have hBt:=hBt.q hx9 (by simp; omega)
 have hRo:=hRo.q hx9 (by intro x hx hf; have hx:=Dr4.1 hx; have h1:=hf.1; have h2:=hf.2.1; omega)
 refine Qc (A6 (C8 rfl rfl (A5 ag27 ‹_› rfl rfl) ?_))
 have hl1:=hBf.lt
 have hl2:=hBl.lt
 have hl3:=hBt.lt
 exact ⟨hC, _, rfl, As, cS, pf, pl, bt, bs, rfl, hrS.mono fun z h hzl => ⟨by have:=h.1; omega, hzl, by simp⟩, ⟨by omega, by omega, by simp⟩, hBf, ⟨by omega, by omega, by simp⟩, hBl, ⟨by omega, by omega, by simp⟩, hBt, hRo.mono fun z h hzl => ⟨by have:=h.1; omega, hzl, by simp⟩⟩
theorem Cz7 (L : List Nat) (p : Ps) (c : Nat) : (Ar2 L p c).1.set = 0:=by
 unfold Ar2
 dsimp only
 generalize (if c = 43 then ((1, -1, p) : Int × Int × Ps) else if c = 63 then (0, 1, p) else if c = 123 then W8 L p else (0, -1, p)) = m
 split <;> rfl
theorem Cy2 (L : List Nat) (p : Ps) (n : Nat) : (Aa6 L p n).1.set = 0:=by
 unfold Aa6
 split
 ·rfl
 split <;> rfl
theorem oneP_set (s : ByteArray) (p : Ps) : K3 (Ag1 (C2 s) p).1.set:=by
 have hc : H5 (C2 s) p < 256:=Ae4 s p
 unfold Ag1
 dsimp only
 by_cases h1 : H5 (C2 s) p = 92
 ·rw [Dr2 h1]; exact Bm7 s p
 rw [Dr1 h1]
 by_cases h2 : H5 (C2 s) p = 91
 ·rw [Dr2 h2]; exact Do3 s p
 rw [Dr1 h2]
 by_cases h3 : H5 (C2 s) p = 40
 ·rw [Dr2 h3, Cy2]; exact M9
 rw [Dr1 h3]
 by_cases h4 : H5 (C2 s) p = 41
 ·rw [Dr2 h4]; exact M9
 rw [Dr1 h4]
 by_cases h5 : H5 (C2 s) p = 124
 ·rw [Dr2 h5]; exact M9
 rw [Dr1 h5]
 by_cases h6 : H5 (C2 s) p = 46
 ·rw [Dr2 h6]; exact Ba3 _
 rw [Dr1 h6]
 by_cases h7 : H5 (C2 s) p = 42 ∨ H5 (C2 s) p = 43 ∨ H5 (C2 s) p = 63 ∨ H5 (C2 s) p = 123
 ·rw [Dr2 h7, Cz7]; exact M9
 rw [Dr1 h7]
 split
 ·exact Aw2 hc
 split
 ·exact Aw2 hc
 ·exact Aw2 hc
def Cd2 (T : List Tok) : Prop:=∀ t ∈ T, K3 t.set
theorem Cn8 (s : ByteArray) : ∀ (f : Nat) (p : Ps) (l : List Tok), Cd2 l → Cd2 (At0 (C2 s) f p l).1
 | 0, p, l, h => by unfold At0; exact h
 | f + 1, p, l, h => by
  unfold At0
  split
  ·dsimp only
   split
   ·intro t ht; cases ht
   ·refine Cn8 s f _ _ fun t ht => ?_
    rcases Dv0.1 ht with h1 | h1
    ·exact h t h1
    ·rw [Dr4] at h1
     subst h1
     exact oneP_set s p
  ·exact h
theorem scanP_ok (s : ByteArray) : Cd2 (W6 (C2 s)).1:=by
 unfold W6
 split
 ·intro t ht; cases ht
 ·exact Cn8 s _ _ _ (fun t ht => by cases ht)
theorem SynsOk.snoc {l : List Syn} {t : Syn} (h : SynsOk l) (ht : SynOk t) : SynsOk (l ++ [t]):=by
 induction l with
 | nil => exact ⟨ht, trivial⟩
 | cons x r ih => exact ⟨h.1, ih h.2⟩
theorem Bm8 (l : List Syn) (t : Syn) : Q5 (l ++ [t]) = max (Q5 l) (O6 t):=by
 induction l with
 | nil => simp [Q5]
 | cons x r ih => simp only [Dr6, Q5, ih]; omega
theorem Ab8 : SynOk default:=⟨M9, by decide, trivial⟩
theorem Ch5 {k : Int} {l : List Syn} {d : Nat} (hk : k = 4 ∨ k = 5) (h : SynsOk l) (hd : Q5 l ≤ d) (hl : l.length ≤ 2000000) : SynOk (Ay4 k l) ∧ O6 (Ay4 k l) ≤ d:=by
 match l, h, hd, hl with
 | [], h, hd, hl => exact ⟨⟨M9, hl, h⟩, by show O6 (.node k 0 0 0 false [] _ _) ≤ d; rw [O6, Dr1 (by omega)]; exact hd⟩
 | [x], h, hd, hl => exact ⟨h.1, by show O6 x ≤ d; simp [Q5] at hd; exact hd⟩
 | x :: y :: r, h, hd, hl => exact ⟨⟨M9, hl, h⟩, by show O6 (.node k 0 0 0 false (x :: y :: r) _ _) ≤ d; rw [O6, Dr1 (by omega)]; exact hd⟩
theorem Cp4 (a b : Int) : SynOk (.node 0 0 0 0 false [] a b) ∧ O6 (.node 0 0 0 0 false [] a b) = 0:=⟨⟨M9, by decide, trivial⟩, rfl⟩
theorem Cc1 {p : Pp} {a : Int} {l : List Syn} {d : Nat} (h : SynsOk l) (hd : Q5 l ≤ d) (hl : l.length ≤ 2000000) : SynOk (X3 p a l) ∧ O6 (X3 p a l) ≤ d:=by
 unfold X3
 split
 ·exact ⟨(Cp4 a a).1, by rw [(Cp4 a a).2]; exact Ds0 _⟩
 ·exact Ch5 (.inl rfl) h hd hl
structure PG (T : List Tok) (en f : Nat) : Prop where
 alt : ∀ p, SynOk (X7 T en f p).1 ∧ O6 (X7 T en f p).1 ≤ f
 altL : ∀ p l d, SynsOk l → Q5 l ≤ d → f ≤ d → l.length + f ≤ 2000000 → SynOk (altL T en f p l).1 ∧ O6 (altL T en f p l).1 ≤ d
 cat : ∀ p, SynOk (Bg0 T en f p).1 ∧ O6 (Bg0 T en f p).1 ≤ f
 catL : ∀ p a l d, SynsOk l → Q5 l ≤ d → f ≤ d → l.length + f ≤ 2000000 → SynOk (catL T en f p a l).1 ∧ O6 (catL T en f p a l).1 ≤ d
 item : ∀ p x, K3 x.set → SynOk (Z7 T en f p x).1 ∧ O6 (Z7 T en f p x).1 ≤ f
 group : ∀ p x, SynOk (M6 T en f p x).1 ∧ O6 (M6 T en f p x).1 ≤ f
theorem pkQ_ok {T : List Tok} (hT : Cd2 T) (en : Nat) (p : Pp) : K3 (pkQ T en p).set:=by
 unfold pkQ
 split
 ·rename_i h
  exact hT _ (by rw [Dr3, Dr5 h]; exact List.getElem_mem h)
 ·exact M9
theorem Bb8 (T : List Tok) (en : Nat) (hT : Cd2 T) : ∀ f, f ≤ 1000000 → PG T en f
 | 0, _ => by
  have hz : SynOk default ∧ O6 default ≤ 0:=⟨Ab8, Ds3 _⟩
  refine ⟨fun p => ?_, fun p l d h hd hf hl => ?_, fun p => ?_, fun p a l d h hd hf hl => ?_, fun p x hx => ?_, fun p x => ?_⟩
  ·unfold X7; exact hz
  ·unfold altL; exact Ch5 (.inr rfl) h hd (by omega)
  ·unfold Bg0; exact hz
  ·unfold catL; exact Cc1 h hd (by omega)
  ·unfold Z7; exact hz
  ·unfold M6; exact hz
 | f + 1, hf1 => by
  have ih:=Bb8 T en hT f (by omega)
  refine ⟨fun p => ?_, fun p l d h hd hf hl => ?_, fun p => ?_, fun p a l d h hd hf hl => ?_, fun p x hx => ?_, fun p x => ?_⟩
  ·unfold X7
   obtain ⟨h1, h2⟩:=ih.cat p
   obtain ⟨h3, h4⟩:=ih.altL (Bg0 T en f p).2 [(Bg0 T en f p).1] f ⟨h1, trivial⟩ (by simp [Q5]; exact h2) (Ds3 _) (by simp; omega)
   exact ⟨h3, Nat.le_succ_of_le h4⟩
  ·unfold altL
   split
   ·obtain ⟨h1, h2⟩:=ih.cat p.adv
    exact ih.altL _ _ d (h.snoc h1) (by rw [Bm8]; omega) (by omega) (by rw [Dr7]; simp; omega)
   ·exact Ch5 (.inr rfl) h hd (by omega)
  ·unfold Bg0
   obtain ⟨h1, h2⟩:=ih.catL p (pkQ T en p).src [] f trivial (Ds0 _) (Ds3 _) (by simp; omega)
   exact ⟨h1, Nat.le_succ_of_le h2⟩
  ·unfold catL
   split
   ·obtain ⟨h1, h2⟩:=ih.item p (pkQ T en p) (pkQ_ok hT en p)
    exact ih.catL _ _ _ d (h.snoc h1) (by rw [Bm8]; omega) (by omega) (by rw [Dr7]; simp; omega)
   ·exact Cc1 h hd (by omega)
  ·unfold Z7
   have hm : SynOk (if x.kind = 0 then ((.node 1 x.set 0 0 false [] x.src x.to, p.adv) : Syn × Pp) else if x.kind = 1 ∨ x.kind = 2 then M6 T en f p x else (default, p.fail x.src 4)).1 ∧ O6 (if x.kind = 0 then ((.node 1 x.set 0 0 false [] x.src x.to, p.adv) : Syn × Pp) else if x.kind = 1 ∨ x.kind = 2 then M6 T en f p x else (default, p.fail x.src 4)).1 ≤ f:=by
    split
    ·exact ⟨⟨hx, by decide, trivial⟩, by show O6 (.node 1 x.set 0 0 false [] x.src x.to) ≤ f; rw [O6, Dr1 (by omega), Q5]; omega⟩
    ·split
     ·exact ih.group p x
     ·exact ⟨Ab8, Ds0 _⟩
   generalize (if x.kind = 0 then ((.node 1 x.set 0 0 false [] x.src x.to, p.adv) : Syn × Pp) else if x.kind = 1 ∨ x.kind = 2 then M6 T en f p x else (default, p.fail x.src 4)) = m at hm
   dsimp only
   split
   ·exact ⟨hm.1, Nat.le_succ_of_le hm.2⟩
   ·refine ⟨⟨M9, by simp, hm.1, trivial⟩, ?_⟩
    rw [O6, Dr1 (by omega), Q5, Q5]
    have:=hm.2
    omega
  ·unfold M6
   split
   ·exact ⟨Ab8, Ds0 _⟩
   ·obtain ⟨h1, h2⟩:=ih.alt { p with deep:=p.deep + 1, next:=p.next + 1 }
    dsimp only
    generalize X7 T en f { p with deep:=p.deep + 1, next:=p.next + 1 } = c at *
    split
    ·exact ⟨Ab8, Ds0 _⟩
    split
    ·exact ⟨Ab8, Ds0 _⟩
    ·refine ⟨⟨M9, by simp, h1, trivial⟩, ?_⟩
     rw [O6]
     have : Q5 [c.1] ≤ f:=by simp [Q5]; exact h2
     have e : ∀ (P : Prop) [Decidable P], (if P then Q5 [c.1] + 1 else Q5 [c.1]) ≤ f + 1:=fun P _ => by split <;> omega
     exact e _
theorem Cw4 (s : ByteArray) (hs : s.size ≤ 1000) (h : (N0 (C2 s)).2.2 = 0) : SynOk (N0 (C2 s)).1 ∧ O6 (N0 (C2 s)).1 ≤ 100000000:=by
 have hlen : (W6 (C2 s)).1.length ≤ 1000:=by
  have:=E7 s
  unfold W6
  split
  ·exact Ds0 _
  ·exact Du7 (Ba4 (C2 s) _ _ _ (Ds3 _) (Ds0 _)) (by omega)
 have hT:=scanP_ok s
 unfold N0 at h ⊢
 dsimp only at h ⊢
 generalize W6 (C2 s) = t at *
 split at h
 ·rename_i h1; exact absurd h h1
 rename_i h1
 rw [Dr1 h1]
 unfold Cp0 at h ⊢
 dsimp only at h ⊢
 obtain ⟨h2, h3⟩:=(Bb8 t.1 (C2 s).length hT (5 * t.1.length + 5) (by omega)).alt ⟨0, 0, 0, 0⟩
 generalize (if okQ t.1 (X7 t.1 (C2 s).length (5 * t.1.length + 5) ⟨0, 0, 0, 0⟩).2 then (X7 t.1 (C2 s).length (5 * t.1.length + 5) ⟨0, 0, 0, 0⟩).2.fail (pkQ t.1 (C2 s).length (X7 t.1 (C2 s).length (5 * t.1.length + 5) ⟨0, 0, 0, 0⟩).2).src 4 else (X7 t.1 (C2 s).length (5 * t.1.length + 5) ⟨0, 0, 0, 0⟩).2) = q at *
 split at h
 ·rename_i h4; exact absurd h h4
 rename_i h4
 rw [Dr1 h4]
 exact ⟨h2, Du7 h3 (by omega)⟩
def Bo6 : List Int → Int
 | [] => 0
 | x :: r => max x 0 + Bo6 r
theorem Ae0 : ∀ l, 0 ≤ Bo6 l
 | [] => Int.le_refl _
 | x :: r => by have:=Ae0 r; rw [Bo6]; omega
theorem Bm3 : ∀ (l : List Int) (a : Int), 0 ≤ a → a ≤ 9223372036854775807 → l.foldl Y2 a = min 9223372036854775807 (a + Bo6 l)
 | [], a, h0, h1 => by rw [Dv5, Bo6]; omega
 | x :: r, a, h0, h1 => by
  have hs:=L4 a x
  have:=Ae0 r
  rw [Dw1, Bm3 r _ hs.1 hs.2, Bo6]
  unfold Y2
  omega
theorem Ae1 (l : List Int) : As7 l = min 9223372036854775807 (Bo6 l):=by
 unfold As7
 rw [Bm3 l 0 (by omega) (by omega), Int.zero_add]
def Al7 (c : Cor) : Nat:=(L0 c).length
def Z5 : List Cor → Nat
 | [] => 0
 | c :: r => Al7 c + Z5 r
theorem Aq0 (j : Cor → Cor → Cor) (hj : ∀ a b, Al7 (j a b) = Al7 a + Al7 b) : ∀ l, Al7 (Af1 j l) = Z5 l
 | [] => rfl
 | [x] => by rw [Af1, Z5, Z5, Nat.add_zero]
 | x :: y :: r => by
  have e : Z5 (x :: y :: r) = Al7 x + Z5 (y :: r):=rfl
  rw [Af1, hj, Aq0 j hj (y :: r), e]
theorem Ae7 (a b : Cor) : Al7 (.cat a b) = Al7 a + Al7 b:=by unfold Al7; rw [L0, Dr7]
theorem Br2 (a b : Cor) : Al7 (.alt a b) = Al7 a + Al7 b:=by unfold Al7; rw [L0, Dr7]
theorem Di9 (lz : Bool) (a : Cor) : Al7 (.star lz a) = Al7 a:=by unfold Al7; rw [L0]
theorem Aw8 : ∀ a b, Z5 (a ++ b) = Z5 a + Z5 b
 | [], b => by rw [Dr9, Z5, Dt2]
 | c :: r, b => by rw [Dr6, Z5, Z5, Aw8 r b, Dt1]
theorem Di7 (n : Nat) (c : Cor) : Z5 (List.replicate n c) = n * Al7 c:=by
 induction n with
 | zero => simp [Z5]
 | succ n ih => rw [Ea1, Z5, ih, Ea8]; omega
theorem Bd0 (n : Cor) (lz : Bool) : Al7 (Bf9 n lz) = Al7 n:=by
 unfold Bf9
 split
 ·rw [Br2]; show 0 + _ = _; omega
 ·rw [Br2]; show _ + 0 = _; omega
theorem Aw9 (r : Cor) (lz : Bool) : ∀ k, Al7 (V6 r lz k) = (k + 1) * Al7 r
 | 0 => by rw [V6, Bd0]; omega
 | k + 1 => by rw [V6, Bd0, Ae7, Aw9 r lz k, Ea8 (k + 1)]; omega
theorem Ch7 (mn mx : Int) (lz : Bool) (r : Cor) : Al7 (Am6 mn mx lz r) = mn.toNat * Al7 r + (if mx = -1 then Al7 r else if mn < mx then (mx - mn).toNat * Al7 r else 0):=by
 unfold Am6
 rw [Aq0 _ Ae7, Aw8, Di7]
 congr 1
 split
 ·rw [Z5, Z5, Di9]; omega
 split
 ·rw [Z5, Z5, Aw9, show (mx - mn).toNat - 1 + 1 = (mx - mn).toNat by omega]; omega
 ·rfl
theorem By6 {a b : Int} (ha : 1 ≤ a) (hb : 0 ≤ b) (h : min 9223372036854775807 (a * b) ≤ 5000) : a * b ≤ 5000 ∧ b ≤ a * b:=by
 have h1 : a * b ≤ 5000:=by omega
 have h2 : 1 * b ≤ a * b:=Int.mul_le_mul_of_nonneg_right ha hb
 exact ⟨h1, by omega⟩
theorem Cf8 {mn mx size : Int} {n : Nat} (h0 : 0 ≤ mn) (h1 : mn ≤ 1000) (h2 : mx = -1 ∨ (mn ≤ mx ∧ mx ≤ 1000)) (hs : 0 ≤ size ∧ size ≤ 9223372036854775807) (hn : size ≤ 5000 → (n : Int) ≤ size) (h : Q7 mn mx size ≤ 5000) :
  ((mn.toNat * n + (if mx = -1 then n else if mn < mx then (mx - mn).toNat * n else 0) : Nat) : Int) ≤ Q7 mn mx size:=by
 unfold Q7 at h ⊢
 by_cases h3 : (Ag5 mn mx size).2 = 0
 ·rw [Dr2 h3]
  unfold Ag5 at h3
  have hm : mn = 0 ∧ mx = 0:=by
   split at h3
   ·dsimp only at h3; omega
   split at h3
   ·dsimp only at h3; omega
   ·dsimp only at h3; omega
  rw [hm.1, hm.2]
  simp
 rw [Dr1 h3] at h ⊢
 rw [Ae1] at h ⊢
 have hsp:=Ah2 mn size h0 (by omega)
 have hmul : 0 ≤ mn * size:=Ea9 h0 hs.1
 have hsm : Ag0 mn size = min 9223372036854775807 (mn * size):=by unfold Ag0; rw [Ea7 h0, Ea7 hs.1]
 have hmn : ((mn.toNat * n : Nat) : Int) = mn * (n : Int):=by rw [Int.natCast_mul, Int.toNat_of_nonneg h0]
 have hpart : Ag0 mn size ≤ 5000 → mn * (n : Int) ≤ Ag0 mn size:=fun hle => by
  rw [hsm] at hle ⊢
  by_cases hz : mn = 0
  ·rw [hz]; omega
  ·obtain ⟨ha, hb⟩:=By6 (a:=mn) (b:=size) (by omega) hs.1 hle
   have:=Int.mul_le_mul_of_nonneg_left (hn (by omega)) h0
   omega
 rw [hsp] at h ⊢
 simp only [Bo6] at h ⊢
 unfold Ag5 at h h3 ⊢
 by_cases hx : mx = -1
 ·rw [Dr2 hx] at h h3 ⊢
  rw [Dr2 hx]
  dsimp only at h h3 ⊢
  rw [Ae1] at h ⊢
  simp only [Bo6] at h ⊢
  have:=hpart (by omega)
  have:=hn (by omega)
  rw [Int.natCast_add, hmn]
  omega
 rw [Dr1 hx] at h h3 ⊢
 rw [Dr1 hx]
 by_cases hy : 0 < mx - mn
 ·rw [Dr2 hy] at h h3 ⊢
  rw [Dr2 (by omega)]
  dsimp only at h h3 ⊢
  have hs2 : As7 [size, 2] = min 9223372036854775807 (size + 2):=by rw [Ae1]; simp only [Bo6]; omega
  rw [hs2, Ah2 _ _ (by omega) (by omega)] at h ⊢
  have hsm2 : Ag0 (mx - mn) (min 9223372036854775807 (size + 2)) = min 9223372036854775807 ((mx - mn) * (min 9223372036854775807 (size + 2))):=by unfold Ag0; rw [Ea7 (by omega), Ea7 (by omega)]
  rw [Ae1] at h ⊢
  simp only [Bo6] at h ⊢
  rw [hsm2] at h ⊢
  have hq : min 9223372036854775807 ((mx - mn) * (min 9223372036854775807 (size + 2))) ≤ 5000:=by omega
  obtain ⟨ha, hb⟩:=By6 (a:=mx - mn) (by omega) (by omega) hq
  have hmin : min 9223372036854775807 (size + 2) = size + 2:=by omega
  rw [hmin] at ha hb h ⊢
  have h5:=hpart (by omega)
  have h6:=hn (by omega)
  have h7 : (mx - mn) * (n : Int) ≤ (mx - mn) * (size + 2):=Int.mul_le_mul_of_nonneg_left (by omega) (by omega)
  have h8 : 0 ≤ (mx - mn) * (n : Int):=Ea9 (by omega) (by omega)
  have e : (((mx - mn).toNat * n : Nat) : Int) = (mx - mn) * (n : Int):=by rw [Int.natCast_mul, Int.toNat_of_nonneg (by omega)]
  rw [Int.natCast_add, hmn, e]
  omega
 ·rw [Dr1 hy] at h h3 ⊢
  rw [Dr1 (by omega)]
  dsimp only at h h3 ⊢
  have:=hpart (by omega)
  rw [Nat.add_zero, hmn]
  omega
theorem Ca4 {l : List Int} {n : Nat} (hl : l.length ≠ 0) (hr : ∀ x ∈ l, 0 ≤ x ∧ x ≤ 9223372036854775807) (h : Y8 l ≤ 5000) (hn : Bo6 l ≤ 5000 → (n : Int) ≤ Bo6 l) : (n : Int) ≤ Y8 l:=by
 unfold Y8 at h ⊢
 rw [Dr1 hl] at h ⊢
 rw [Ae1, Ae1] at h ⊢
 have:=Ae0 l
 simp only [Bo6] at h ⊢
 have:=hn (by omega)
 omega
theorem Dj4 {k : Int} {s : Nat} {mn mx : Int} {lz : Bool} {l : List Syn} {a b : Int} (h : Z6 (.node k s mn mx lz l a b) = true) (hk : k = 4 ∨ k = 5) : l.length ≠ 0:=by
 rcases hk with rfl | rfl
 ·have : (decide (1 < l.length) && notK [4, 0, 5] l) = true:=h
  simp only [Dr8, Du9] at this
  omega
 ·have : (decide (1 < l.length) && notK [5] l) = true:=h
  simp only [Dr8, Du9] at this
  omega
theorem kids_6 {k : Int} {s : Nat} {mn mx : Int} {lz : Bool} {l : List Syn} {a b : Int} (h : Z6 (.node k s mn mx lz l a b) = true) (hk : k = 6) : P2 (.node k s mn mx lz l a b) = true:=by
 subst hk
 have h2 : (decide (l.length = 1) && (P2 (.node 6 s mn mx lz l a b) && (decide ((l.getD 0 default).kind = 1) || Aa5 (l.getD 0 default)))) = true:=h
 simp only [Dr8] at h2
 exact h2.2.1
mutual
theorem Bp1 : ∀ t : Syn, S1 t = true → P7 t ≤ 5000 → ((Al7 (Aj6 t) : Nat) : Int) ≤ P7 t
 | .node k s mn mx lz l a b, hf, hm => by
  rw [S1] at hf
  simp only [Dr8] at hf
  obtain ⟨hf1, hf2⟩:=hf
  have hk : Z6 (.node k s mn mx lz l a b) = true:=by
   unfold An1 at hf1
   simp only [Dr8] at hf1
   exact hf1.2.2
  have hL:=Cn7 l hf2
  have hH:=setsH_le l hf2
  have hlen:=Ai6 l
  have hrg:=Ab2 l
  rw [P7] at hm ⊢
  rw [Aj6]
  by_cases h1 : k = 1
  ·rw [Dr2 h1, Dr1 (by omega), Dr1 (by omega), Dr1 (by omega)]
   show ((1 : Nat) : Int) ≤ 1
   omega
  rw [Dr1 h1]
  by_cases h23 : k = 2 ∨ k = 3
  ·rw [Dr2 h23] at hm ⊢
   rw [Dr2 h23]
   exact hH hm
  rw [Dr1 h23] at hm ⊢
  rw [Dr1 h23]
  by_cases h4 : k = 4
  ·rw [Dr2 h4, Aq0 _ Ae7]
   rw [Dr2 (.inl h4)] at hm ⊢
   exact Ca4 (by rw [hlen]; exact Dj4 hk (.inl h4)) hrg hm hL
  rw [Dr1 h4]
  by_cases h5 : k = 5
  ·rw [Dr2 h5, Aq0 _ Br2]
   rw [Dr2 (.inr h5)] at hm ⊢
   exact Ca4 (by rw [hlen]; exact Dj4 hk (.inr h5)) hrg hm hL
  rw [Dr1 h5]
  rw [Dr1 (show ¬ (k = 4 ∨ k = 5) by omega)] at hm ⊢
  by_cases h6 : k = 6
  ·rw [Dr2 h6] at hm ⊢
   rw [Dr2 h6, Ch7]
   have hk2:=kids_6 hk h6
   unfold P2 at hk2
   simp only [Dr8, Bool.or_eq_true] at hk2
   have hrh : 0 ≤ (G4 l).headD 0 ∧ (G4 l).headD 0 ≤ 9223372036854775807:=by
    match l, hrg with
    | [], _ => exact ⟨by decide, by decide⟩
    | x :: r, hrg => exact hrg _ (by rw [G4]; exact Du2 ..)
   exact Cf8 (Dw9 hk2.1) (Dw9 hk2.2.1) (hk2.2.2.imp Dw9 (fun h => ⟨Dw9 h.1, Dw9 h.2⟩)) hrh hH hm
  ·rw [Dr1 h6, Dr1 h6]
   show ((0 : Nat) : Int) ≤ 1
   omega
theorem Cn7 : ∀ l : List Syn, Q3 l = true → Bo6 (G4 l) ≤ 5000 → ((Z5 (N2 l) : Nat) : Int) ≤ Bo6 (G4 l)
 | [], _, _ => by rw [N2, Z5, G4, Bo6]; omega
 | t :: r, hf, hm => by
  rw [Q3] at hf
  simp only [Dr8] at hf
  rw [G4, Bo6] at hm ⊢
  have h0:=Ae0 (G4 r)
  have h1:=Bp1 t hf.1 (by omega)
  have h2:=Cn7 r hf.2 (by omega)
  rw [N2, Z5]
  omega
theorem setsH_le : ∀ l : List Syn, Q3 l = true → (G4 l).headD 0 ≤ 5000 → ((Al7 ((N2 l).headD .empty) : Nat) : Int) ≤ (G4 l).headD 0
 | [], _, _ => by rw [N2, G4]; exact Int.le_refl _
 | t :: r, hf, hm => by
  rw [Q3] at hf
  simp only [Dr8] at hf
  rw [G4, List.headD_cons] at hm ⊢
  rw [N2, List.headD_cons]
  exact Bp1 t hf.1 hm
end
theorem Di8 (r : Cor) (m : Int) : Al7 (Cu5 r m) ≤ Al7 r + 2:=by
 unfold Cu5
 have hr : Al7 Cv8 = 1:=rfl
 split
 ·rw [Ae7, hr]; omega
 split
 ·rw [Ae7, hr]; omega
 split
 ·rw [Ae7, Ae7, hr]; omega
 ·omega
theorem Cz8 (L : List Nat) (m : Int) (h : (Q6 L m).2.2 = 0) : (L0 (Q6 L m).1).length ≤ 1000000:=by
 unfold Q6 at h ⊢
 split at h
 ·cases h
 rename_i h1
 rw [Dr1 h1]
 split at h
 ·rename_i h2; exact absurd h h2
 rename_i h2
 rw [Dr1 h2]
 dsimp only at h ⊢
 unfold Bn9 at h
 split at h
 ·cases h
 rename_i h3
 split at h
 ·cases h
 rename_i h4
 have h3' : Ba9 (N0 L).1 m = true:=by simpa using h3
 unfold Az7 at h4
 rw [Dr2 h3', Ae1] at h4
 simp only [Bo6] at h4
 have hr:=V5 (N0 L).1
 have:=Bp1 (N0 L).1 (Ba8 h3').1 (by omega)
 have:=Di8 (Aj6 (N0 L).1) m
 show Al7 _ ≤ _
 omega
theorem wnew_nil (w : World) : Calls P 62 #[.pointer none] w (Ret fun u w' => u = .tuple #[.pointer none, .int .i64 1] ∧ Chg [] w w'):=by
 have hC:=A8 [] w
 refine D3 Tryz.func62 rfl rfl (Qd (Zc 2 rfl (Qa (B0 (Qd (Z 1 rfl (C7 rfl (H2 Tryz.underlying67 rfl rfl) (Zc 1 rfl (A4 rfl (fun h0 => ?_) (fun h0 => ?_))))))))))
 ·try simp at h0
  exact Qd (Zc 2 rfl (A6 (M4 rfl rfl rfl ⟨rfl, hC⟩)))
 ·try simp at h0
  all_goals simp at h0
theorem anew_nil (w : World) : Calls P 37 #[.pointer none] w (Ret fun u w' => u = .tuple #[.pointer none, .int .i64 1] ∧ Chg [] w w'):=by
 have hC:=A8 [] w
 refine D3 Tryz.func37 rfl rfl (Qd (Zc 2 rfl (Qd (Z 1 rfl (Ca fb62 rfl (wnew_nil _) ?_)))))
 rintro _ w1 ⟨rfl, hx1⟩
 have hC:=hC.s0 hx1
 exact Zc 5 rfl (Qa (Qd (Zc 2 rfl (E1 (rfl) (Qd (Zc 3 rfl (A6 (M4 rfl rfl rfl ⟨rfl, hC⟩))))))))
def Ce2 (L : List Nat) (m : Int) : Bool:=decide (L.length ≤ 40) && decide ((I6 L m).2.2 = 0) && decide (D8 (I6 L m).1 ≤ 10) && decide (n8s (I6 L m).1 ≤ 80) && !Ca0 (I6 L m).1
theorem Df2 (s : ByteArray) (m : Int) (w : World) (hL : Laid w) : Calls P 36 #[.string s, .int .i64 m] w (Ret fun u w' => Chg [] w w' ∧ (Ce2 (C2 s) m = false → ∃ cs : List Value, u = .tuple #[.pointer none, .agg cs.toArray, .int .i64 1] ∧ cs.all Value.oneCell' = true ∧ cs.length = 7) ∧ (Ce2 (C2 s) m = true → ∃ (cs : List Value) (ad : Option Addr), u = .tuple #[.pointer ad, .agg cs.toArray, .int .i64 0] ∧ N8 (FR w.heap.size w'.heap.size []) w' (I6 (C2 s) m).1 cs ∧ ((Q6 (C2 s) m).2.2 = 0 → IsCor (FR w.heap.size w'.heap.size []) w' (Q6 (C2 s) m).1 (.pointer ad)) ∧ ((Q6 (C2 s) m).2.2 ≠ 0 → ad = none))):=by
 have hC:=A8 [] w
 have hsl:=E7 s
 have hlt:=W5 s
 try have hz4:=hL.sz
 refine D3 Tryz.func36 rfl rfl (Qd (Z 1 rfl (B4 rfl (B6 Ak8 rfl) ?_)))
 intro b1 w1 hb1 hs1 hx1 hB1
 have hC:=hC.s0 hx1
 have hL:=hL.u hx1
 refine Zc 1 rfl (Qa (Qd (Z 1 rfl (C7 rfl (F4 Tryz.underlying9 rfl) (Zc 1 rfl (A4 rfl (fun h1 => ?_) (fun h1 => ?_)))))))
 ·try simp at h1
  have hF : Ce2 (C2 s) m = false:=by unfold Ce2; rw [Ds4 (p:=(C2 s).length ≤ 40) (by omega)]; rfl
  refine Qd (C7 rfl (A9 Ak8 Co8 rfl (by rfl)) ?_)
  refine Z 1 rfl (Pe Ah1 rfl ‹_› rfl rfl ?_)
  intro w2 hs2 hx2 hB1
  have hC:=hC.step hx2 (by simp; omega)
  refine Zc 1 rfl (A6 (H8 rfl rfl rfl (A5 K4 ‹_› rfl rfl) rfl ?_))
  exact ⟨hC, fun _ => ⟨_, rfl, rfl, rfl⟩, fun h => by rw [hF] at h; cases h⟩
 ·try simp at h1
  have hgood:=Ap0 (C2 s) m hlt (by omega)
  refine A7 (Qd (Z 2 rfl (Ca fb57 rfl (De7 s m (by omega) _) ?_)))
  rintro _ w3 ⟨hx3, cs, rfl, hn⟩
  have hz3:=hx3.size
  have hn:=hn.mono (F':=FR (b1 + 1) w3.heap.size []) (fun z h _ => ⟨by have:=h.1; omega, h.2.1, by simp⟩)
  have hFdef : Ce2 (C2 s) m = (decide (s.size ≤ 40) && decide ((I6 (C2 s) m).2.2 = 0) && decide (D8 (I6 (C2 s) m).1 ≤ 10) && decide (n8s (I6 (C2 s) m).1 ≤ 80) && !Ca0 (I6 (C2 s) m).1):=by unfold Ce2; rw [hsl]
  have hone:=hn.one1
  generalize I6 (C2 s) m = x at *
  obtain ⟨t, p, e⟩:=x
  simp only [] at hFdef hn hgood
  obtain ⟨a0, a1, a2, a3, a4, a5, a6, rfl⟩:=hn.cells
  refine Z 4 rfl (B4 rfl (B6 Ak8 rfl) ?_)
  intro b4 w4 hb4 hs4 hx4 hB4
  have hn:=hn.u hx4
  refine Pb (cs':=[a0, a1, a2, a3, a4, a5, a6]) Ah1 rfl rfl hB4 rfl rfl hone rfl rfl ?_
  intro w5 hs5 hx5 hB4
  have hC:=hC.step ((hx3.j hx4).j hx5) (by simp <;> omega)
  have hL:=hL.q ((hx3.j hx4).j hx5) (by simp <;> omega)
  have hB1:=hB1.q ((hx3.j hx4).j hx5) (by simp <;> omega)
  have hn:=hn.q hx5 (by intro x hx hf; have hx:=Dr4.1 hx; have h1:=hf.1; have h2:=hf.2.1; omega)
  refine Zc 2 rfl (Qa (Qd (Z 3 rfl (B7 (d:=26) rfl (fun g1 => ?_) (fun g1 => ?_)))))
  ·try simp at g1
   have hF : Ce2 (C2 s) m = false:=by rw [hFdef, Ds4 (p:=e = 0) g1]; simp
   refine Qk rfl (Qk rfl (Qk rfl (Z 2 rfl (Qk rfl (Qk rfl (Qk rfl (Z 2 rfl (Qk rfl (Qk rfl (Zc 1 rfl (E1 rfl (Qa (C6 (S:=[]) 2 [(0, 0), (0, 1), (2, 2), (2, 3)] mo (by kernel_rfl) ?_)))))))))))))
   intro w6 hx6 hh6
   have hB1:=hB1.u hx6
   have hB4:=hB4.u hx6
   refine D5 rfl (B8 K4 rfl ‹_› (by simp; done) rfl rfl) ?_
   refine Z 1 rfl (Pb (cs':=[a0, a1, a2, a3, a4, a5, a6]) Ah1 rfl rfl hB1 rfl rfl hone rfl rfl ?_)
   intro w7 hs7 hx7 hB1
   have hC:=hC.step (hx6.j hx7) (by simp <;> omega)
   refine Zc 1 rfl (A6 (H8 rfl rfl rfl (A5 K4 ‹_› rfl rfl) rfl ?_))
   exact ⟨hC, fun _ => ⟨_, rfl, hone, rfl⟩, fun h => by rw [hF] at h; cases h⟩
  ·try simp at g1
   have g1' : e = 0:=by simpa using g1
   obtain ⟨hg, hn8⟩:=hgood g1'
   refine Qu rfl (La K4 rfl ‹_› rfl rfl ?_)
   refine Qu rfl (Ca fb58 rfl (Ai3 t (by omega) _ _ _ (fun z hz => by have:=hz.2.1; omega) hn) ?_)
   rintro _ w8 ⟨rfl, hx8⟩
   have hz8:=hx8.size
   have hC:=hC.s0 hx8
   have hL:=hL.u hx8
   have hB1:=hB1.u hx8
   have hn:=hn.u hx8
   have hB4:=hB4.u hx8
   refine Qu rfl (Z 3 rfl (B7 (d:=31) rfl (fun g2 => ?_) (fun g2 => ?_)))
   ·rw [cmpB_gtr] at g2
    have hF : Ce2 (C2 s) m = false:=by rw [hFdef, Ds4 (p:=D8 t ≤ 10) (by omega)]; simp
    refine Qk rfl (Qk rfl (Qk rfl (Z 2 rfl (Qk rfl (Qk rfl (Zc 1 rfl (E1 rfl (Qa (C6 (S:=[]) 2 [(0, 0), (0, 1), (2, 2), (2, 3)] mo (by kernel_rfl) ?_)))))))))
    intro w9 hx9 hh9
    have hB1:=hB1.u hx9
    have hB4:=hB4.u hx9
    refine D5 rfl (B8 K4 rfl ‹_› (by simp; done) rfl rfl) ?_
    refine Z 1 rfl (Pb (cs':=[a0, a1, a2, a3, a4, a5, a6]) Ah1 rfl rfl hB1 rfl rfl hone rfl rfl ?_)
    intro w10 hs10 hx10 hB1
    have hC:=hC.step (hx9.j hx10) (by simp <;> omega)
    refine Zc 1 rfl (A6 (H8 rfl rfl rfl (A5 K4 ‹_› rfl rfl) rfl ?_))
    exact ⟨hC, fun _ => ⟨_, rfl, hone, rfl⟩, fun h => by rw [hF] at h; cases h⟩
   ·rw [cmpB_gtrF] at g2
    refine Qu rfl (La K4 rfl ‹_› rfl rfl ?_)
    refine Qu rfl (Ca fb59 rfl (Cs5 t (by omega) _ _ _ (fun z hz => by have:=hz.2.1; omega) hn) ?_)
    rintro _ w11 ⟨rfl, hx11⟩
    have hz11:=hx11.size
    have hC:=hC.s0 hx11
    have hL:=hL.u hx11
    have hB1:=hB1.u hx11
    have hn:=hn.u hx11
    have hB4:=hB4.u hx11
    refine Qu rfl (Z 3 rfl (B7 (d:=36) rfl (fun g3 => ?_) (fun g3 => ?_)))
    ·rw [cmpB_gtr] at g3
     have hF : Ce2 (C2 s) m = false:=by rw [hFdef, Ds4 (p:=n8s t ≤ 80) (by omega)]; simp
     refine Qk rfl (Qk rfl (Zc 1 rfl (E1 rfl (Qa (C6 (S:=[]) 2 [(0, 0), (0, 1), (2, 2), (2, 3)] mo (by kernel_rfl) ?_)))))
     intro w12 hx12 hh12
     have hB1:=hB1.u hx12
     have hB4:=hB4.u hx12
     refine D5 rfl (B8 K4 rfl ‹_› (by simp; done) rfl rfl) ?_
     refine Z 1 rfl (Pb (cs':=[a0, a1, a2, a3, a4, a5, a6]) Ah1 rfl rfl hB1 rfl rfl hone rfl rfl ?_)
     intro w13 hs13 hx13 hB1
     have hC:=hC.step (hx12.j hx13) (by simp <;> omega)
     refine Zc 1 rfl (A6 (H8 rfl rfl rfl (A5 K4 ‹_› rfl rfl) rfl ?_))
     exact ⟨hC, fun _ => ⟨_, rfl, hone, rfl⟩, fun h => by rw [hF] at h; cases h⟩
    ·rw [cmpB_gtrF] at g3
     refine Qu rfl (La K4 rfl ‹_› rfl rfl ?_)
     refine Qu rfl (Ca fb60 rfl (idle_c t hg (by omega) _ _ _ (fun z hz => by have:=hz.2.1; omega) hn) ?_)
     rintro _ w14 ⟨rfl, hx14⟩
     have hz14:=hx14.size
     have hC:=hC.s0 hx14
     have hL:=hL.u hx14
     have hB1:=hB1.u hx14
     have hn:=hn.u hx14
     have hB4:=hB4.u hx14
     refine Zc 1 rfl (A4 rfl (fun g4 => ?_) (fun g4 => ?_))
     ·try simp at g4
      have hF : Ce2 (C2 s) m = false:=by rw [hFdef, g4]; simp
      refine Qa (C6 (S:=[]) 2 [(0, 0), (0, 1), (2, 2), (2, 3)] mo (by kernel_rfl) ?_)
      intro w15 hx15 hh15
      have hB1:=hB1.u hx15
      have hB4:=hB4.u hx15
      refine D5 rfl (B8 K4 rfl ‹_› (by simp; done) rfl rfl) ?_
      refine Z 1 rfl (Pb (cs':=[a0, a1, a2, a3, a4, a5, a6]) Ah1 rfl rfl hB1 rfl rfl hone rfl rfl ?_)
      intro w16 hs16 hx16 hB1
      have hC:=hC.step (hx15.j hx16) (by simp <;> omega)
      refine Zc 1 rfl (A6 (H8 rfl rfl rfl (A5 K4 ‹_› rfl rfl) rfl ?_))
      exact ⟨hC, fun _ => ⟨_, rfl, hone, rfl⟩, fun h => by rw [hF] at h; cases h⟩
     ·try simp at g4
      have hF : Ce2 (C2 s) m = true:=by rw [hFdef, Ds2 (p:=s.size ≤ 40) (by omega), Ds2 g1', Ds2 (p:=D8 t ≤ 10) (by omega), Ds2 (p:=n8s t ≤ 80) (by omega), show Ca0 t = false by simpa using g4]; rfl
      refine A7 (Qd (Z 2 rfl (Ca fb61 rfl (Bf2 s m _ hL (Cw4 s (by omega))) ?_)))
      rintro _ w17 ⟨hx17, ad, rfl, hI, hN0⟩
      generalize Q6 (C2 s) m = q at *
      have hI : q.2.2 = 0 → IsCor (FR (b1 + 1) w17.heap.size []) w17 q.1 (.pointer ad):=fun h => (hI h).mono (fun z hz hzl => ⟨by have:=hz.1; omega, hz.2.1, by simp⟩)
      have hIm : ∀ w', Chg [b1] w17 w' → q.2.2 = 0 → IsCor (FR w.heap.size w'.heap.size []) w' q.1 (.pointer ad):=fun w' hc h => ((hI h).q hc (fun b hb hf => by simp at hb; have:=hf.1; omega)).mono (fun z hz hzl => ⟨by have:=hz.1; omega, hzl, by simp⟩)
      have hCm:=A8 [b1] w17
      refine Zc 7 rfl (Qa (C6 (S:=[]) 3 [(0, 0), (0, 1), (0, 2), (2, 3), (2, 4)] mo (by kernel_rfl) ?_))
      intro w18 hx18 hh18
      have hB1:=hB1.u (hx17.s0 hx18)
      have hn:=hn.u (hx17.s0 hx18)
      have hB4:=hB4.u (hx17.s0 hx18)
      refine Z 1 rfl (D5 rfl (B8 K4 rfl ‹_› (by simp; done) rfl rfl) ?_)
      refine Z 1 rfl (Pb (cs':=[a0, a1, a2, a3, a4, a5, a6]) Ah1 rfl rfl hB1 rfl rfl hone rfl rfl ?_)
      intro w19 hs19 hx19 hB1
      have hC:=hC.step ((hx17.j hx18).j hx19) (by simp <;> omega)
      have hn:=hn.q hx19 (by intro x hx hf; have hx:=Dr4.1 hx; have h1:=hf.1; have h2:=hf.2.1; omega)
      have hCm:=hCm.step (hx18.j hx19) (by simp <;> omega)
      refine Zc 1 rfl (A6 (H8 rfl rfl rfl (A5 K4 ‹_› rfl rfl) rfl ?_))
      refine ⟨hC, ?_, ?_⟩
      ·intro h
       rw [hF] at h
       cases h
      ·intro _
       exact ⟨_, ad, rfl, hn.mono fun z h hzl => ⟨by have:=h.1; omega, hzl, by simp⟩, hIm _ hCm, hN0⟩
def Au0 (L : List Nat) (m : Int) : Bool:=Ce2 L m && decide ((Q6 L m).2.2 = 0) && decide ((L0 (Q6 L m).1).length ≤ 600)
theorem seven {cs : List Value} (h : cs.length = 7) : ∃ a0 a1 a2 a3 a4 a5 a6, cs = [a0, a1, a2, a3, a4, a5, a6]:=by
 match cs, h with
 | [a0, a1, a2, a3, a4, a5, a6], _ => exact ⟨a0, a1, a2, a3, a4, a5, a6, rfl⟩
theorem fit_good {L : List Nat} {m : Int} (hL : ∀ b ∈ L, b < 256) (h : Ce2 L m = true) : L.length ≤ 40 ∧ (I6 L m).2.2 = 0 ∧ G8 (I6 L m).1 ∧ n8s (I6 L m).1 ≤ 80 ∧ D8 (I6 L m).1 ≤ 10:=by
 unfold Ce2 at h
 simp only [Dr8, Du9] at h
 obtain ⟨⟨⟨⟨h1, h2⟩, h3⟩, h4⟩, h5⟩:=h
 exact ⟨h1, h2, (Ap0 L m hL (by omega) h2).1, h4, h3⟩
theorem Df1 (s : ByteArray) (m : Int) (w : World) (hL : Laid w) : Calls P 11 #[.string s, .int .i64 m] w (Ret fun u w' => Chg [] w w' ∧ (Au0 (C2 s) m = false → ∃ cs : List Value, u = .tuple #[.pointer none, .agg cs.toArray, .int .i64 1] ∧ cs.all Value.oneCell' = true ∧ cs.length = 5) ∧ (Au0 (C2 s) m = true → ∃ (cs : List Value) (p : Nat), u = .tuple #[.pointer (some ⟨p, 0, none⟩), .agg cs.toArray, .int .i64 0] ∧ RAuto (FR w.heap.size w'.heap.size []) w' (I6 (C2 s) m).1 cs ∧ IsAut (FR w.heap.size w'.heap.size []) w' p (V8 (Q6 (C2 s) m).1).1 (V8 (Q6 (C2 s) m).1).2)):=by
 have hC:=A8 [] w
 have hlt:=W5 s
 refine D3 Tryz.func11 rfl rfl (Qd (Z 1 rfl (B4 rfl (B6 zr27 rfl) ?_)))
 intro b1 w1 hb1 hs1 hx1 hB1
 have hL:=hL.u hx1
 refine Zc 1 rfl (Qd (Z 2 rfl (Ca fb36 rfl (Df2 s m _ hL) ?_)))
 rintro v6 w2 ⟨hx2, hno, hyes⟩
 have hz2:=hx2.size
 have hC:=hC.s0 (hx1.s0 hx2)
 have hB1:=hB1.u hx2
 by_cases hf : Ce2 (C2 s) m = true
 ·obtain ⟨cs, ad, rfl, hn, hI, hN0⟩:=hyes hf
  obtain ⟨_, _, hg, hn8, _⟩:=fit_good hlt hf
  have hn:=hn.mono (F':=FR (b1 + 1) w2.heap.size []) (fun z h _ => ⟨by have:=h.1; omega, h.2.1, by simp⟩)
  have hone:=hn.one1
  obtain ⟨a0, a1, a2, a3, a4, a5, a6, rfl⟩:=hn.cells
  by_cases hc : (Q6 (C2 s) m).2.2 = 0
  ·have hI:=hI hc
   have hl:=Cz8 (C2 s) m hc
   refine Z 4 rfl (B4 rfl (B6 Ak8 rfl) ?_)
   intro b3 w3 hb3 hs3 hx3 hB3
   have hn:=hn.u hx3
   have hI:=hI.u hx3
   refine Z 1 rfl (Pb (cs':=[a0, a1, a2, a3, a4, a5, a6]) Ah1 rfl rfl hB3 rfl rfl hone rfl rfl ?_)
   intro w4 hs4 hx4 hB3
   have hn:=hn.q hx4 (by intro x hx hf; have hx:=Dr4.1 hx; have h1:=hf.1; have h2:=hf.2.1; omega)
   have hI:=hI.q hx4 (by intro x hx hf; have hx:=Dr4.1 hx; have h1:=hf.1; have h2:=hf.2.1; omega)
   refine Zc 1 rfl (Qa (Qd (Zc 2 rfl (E3 (rfl) (A7 (Qd (Z 1 rfl (Ca fb37 rfl (anew_c (Q6 (C2 s) m).1 _ _ _ hI (fun z hz => by have:=hz.2.1; omega) hl) ?_))))))))
   rintro v9 w5 ⟨hx5, hbig, hsm⟩
   have hz5:=hx5.size
   have hC:=hC.step ((hx3.j hx4).j hx5) (by simp <;> omega)
   have hB1:=hB1.q ((hx3.j hx4).j hx5) (by simp <;> omega)
   have hn:=hn.u hx5
   have hB3:=hB3.u hx5
   by_cases hb : 600 < (L0 (Q6 (C2 s) m).1).length
   ·have hv:=hbig hb
    subst hv
    have hM : Au0 (C2 s) m = false:=by unfold Au0; rw [Ds4 (p:=_ ≤ 600) (by omega)]; simp
    refine Zc 5 rfl (Qa (Qd (Zc 2 rfl (E1 (rfl) (Qd (C7 rfl (A9 zr27 pl27 rfl (by rfl)) ?_))))))
    refine Z 1 rfl (Pe sz27 rfl ‹_› rfl rfl ?_)
    intro w6 hs6 hx6 hB1
    have hC:=hC.step hx6 (by simp; omega)
    refine Zc 1 rfl (A6 (H8 rfl rfl rfl (A5 ag27 ‹_› rfl rfl) rfl ?_))
    exact ⟨hC, fun _ => ⟨_, rfl, rfl, rfl⟩, fun h => by rw [hM] at h; cases h⟩
   ·obtain ⟨p, rfl, hA⟩:=hsm (by omega)
    have hA:=hA.mono (F':=FR (b1 + 1) w5.heap.size []) (fun z h _ => ⟨by have:=h.1; omega, h.2.1, by simp⟩)
    have hM : Au0 (C2 s) m = true:=by unfold Au0; rw [hf, Ds2 hc, Ds2 (p:=_ ≤ 600) (by omega)]; rfl
    refine Zc 5 rfl (Qa (Qd (Zc 2 rfl (E3 (rfl) (A7 (Qd (Z 1 rfl (La K4 rfl ‹_› rfl rfl ?_))))))))
    refine Ca fb38 rfl (rauto_c (I6 (C2 s) m).1 hg (by omega) [a0, a1, a2, a3, a4, a5, a6] _ _ (fun z hz => by have:=hz.2.1; omega) hn) ?_
    rintro _ w7 ⟨hx7, cs2, rfl, hR⟩
    have hB1:=hB1.u hx7
    have hA:=hA.u hx7
    have hR:=hR.mono (F':=FR (b1 + 1) w7.heap.size []) (fun z h _ => ⟨by have:=h.1; omega, h.2.1, by simp⟩)
    have hone2:=hR.one1
    obtain ⟨d0, d1, d2, d3, d4, rfl⟩ : ∃ d0 d1 d2 d3 d4, cs2 = [d0, d1, d2, d3, d4]:=by
     obtain ⟨As, cS, pf, pl, bt, bs, rfl, _⟩:=hR
     exact ⟨_, _, _, _, _, rfl⟩
    try have hlR:=hR.lt
    refine Z 1 rfl (Pb (cs':=[d0, d1, d2, d3, d4]) sz27 rfl rfl hB1 rfl rfl hone2 rfl rfl ?_)
    intro w8 hs8 hx8 hB1
    have hC:=hC.step (hx7.j hx8) (by simp <;> omega)
    have hA:=hA.q hx8 (by intro x hx hf; have hx:=Dr4.1 hx; have h1:=hf.1; have h2:=hf.2.1; omega)
    have hR:=hR.q hx8 (by intro x hx hf; have hx:=Dr4.1 hx; have h1:=hf.1; have h2:=hf.2.1; omega)
    refine Zc 1 rfl (A6 (H8 rfl rfl rfl (A5 ag27 ‹_› rfl rfl) rfl ?_))
    refine ⟨hC, ?_, ?_⟩
    ·intro h
     rw [hM] at h
     cases h
    ·intro _
     exact ⟨_, p, rfl, hR.mono fun z h hzl => ⟨by have:=h.1; omega, hzl, by simp⟩, hA.mono fun z h hzl => ⟨by have:=h.1; omega, hzl, by simp⟩⟩
  ·have hN:=hN0 hc
   subst hN
   have hM : Au0 (C2 s) m = false:=by unfold Au0; rw [Ds4 hc]; simp
   refine Z 4 rfl (B4 rfl (B6 Ak8 rfl) ?_)
   intro b9 w9 hb9 hs9 hx9 hB9
   refine Z 1 rfl (Pb (cs':=[a0, a1, a2, a3, a4, a5, a6]) Ah1 rfl rfl hB9 rfl rfl hone rfl rfl ?_)
   intro w10 hs10 hx10 hB10
   refine Zc 1 rfl (Qa (Qd (Zc 2 rfl (E3 (rfl) (A7 (Qd (Z 1 rfl (Ca fb37 rfl (anew_nil _) ?_))))))))
   rintro _ w11 ⟨rfl, hx11⟩
   have hB1:=hB1.q ((hx9.j hx10).j hx11) (by simp <;> omega)
   refine Zc 5 rfl (Qa (Qd (Zc 2 rfl (E1 (rfl) (Qd (C7 rfl (A9 zr27 pl27 rfl (by rfl)) ?_))))))
   refine Z 1 rfl (Pe sz27 rfl ‹_› rfl rfl ?_)
   intro w12 hs12 hx12 hB1
   have hC:=hC.step (((hx9.j hx10).j hx11).j hx12) (by simp <;> omega)
   refine Zc 1 rfl (A6 (H8 rfl rfl rfl (A5 ag27 ‹_› rfl rfl) rfl ?_))
   exact ⟨hC, fun _ => ⟨_, rfl, rfl, rfl⟩, fun h => by rw [hM] at h; cases h⟩
 ·have hf' : Ce2 (C2 s) m = false:=by simpa using hf
  obtain ⟨cs, rfl, hone, hlen⟩:=hno hf'
  obtain ⟨a0, a1, a2, a3, a4, a5, a6, rfl⟩:=seven hlen
  have hM : Au0 (C2 s) m = false:=by unfold Au0; rw [hf']; rfl
  refine Z 4 rfl (B4 rfl (B6 Ak8 rfl) ?_)
  intro b13 w13 hb13 hs13 hx13 hB13
  refine Z 1 rfl (Pb (cs':=[a0, a1, a2, a3, a4, a5, a6]) Ah1 rfl rfl hB13 rfl rfl hone rfl rfl ?_)
  intro w14 hs14 hx14 hB14
  have hB1:=hB1.q (hx13.j hx14) (by simp <;> omega)
  refine Zc 1 rfl (Qa (Qd (Zc 2 rfl (E1 (rfl) (Qd (C7 rfl (A9 zr27 pl27 rfl (by rfl)) ?_))))))
  refine Z 1 rfl (Pe sz27 rfl ‹_› rfl rfl ?_)
  intro w15 hs15 hx15 hB1
  have hC:=hC.step ((hx13.j hx14).j hx15) (by simp <;> omega)
  refine Zc 1 rfl (A6 (H8 rfl rfl rfl (A5 ag27 ‹_› rfl rfl) rfl ?_))
  exact ⟨hC, fun _ => ⟨_, rfl, rfl, rfl⟩, fun h => by rw [hM] at h; cases h⟩
def Ag9 (o : List Int) (p : Nat × Int) : List Int:=o.set p.1 (Y2 (o.getD p.1 0) p.2)
def S8 (x : Nat) : List (Nat × Int) → Int
 | [] => 0
 | p :: r => (if p.1 = x then max p.2 0 else 0) + S8 x r
theorem W0 (x : Nat) : ∀ L, 0 ≤ S8 x L
 | [] => Int.le_refl _
 | p :: r => by have:=W0 x r; rw [S8]; split <;> omega
theorem Av3 (x : Nat) : ∀ L M, S8 x (L ++ M) = S8 x L + S8 x M
 | [], M => by rw [Dr9, S8]; omega
 | p :: r, M => by rw [Dr6, S8, S8, Av3 x r M]; omega
theorem set_getD (o : List Int) (i x : Nat) (v : Int) (hi : i < o.length) : (o.set i v).getD x 0 = if i = x then v else o.getD x 0:=by
 simp only [Dr3, Dt5]
 by_cases h : i = x
 ·rw [Dr2 h, Dr2 h, Dr2 hi]; rfl
 ·rw [Dr1 h, Dr1 h]
theorem Ad4 (m : Nat) : ∀ (L : List (Nat × Int)) (o : List Int), o.length = m → rangeOk o → (∀ p ∈ L, p.1 < m) → (L.foldl Ag9 o).length = m ∧ rangeOk (L.foldl Ag9 o) ∧ ∀ x, (L.foldl Ag9 o).getD x 0 = min 9223372036854775807 (o.getD x 0 + S8 x L)
 | [], o, hl, ho, _ => ⟨hl, ho, fun x => by
  have:=ho.get x
  show o.getD x 0 = min _ (o.getD x 0 + 0)
  omega⟩
 | p :: r, o, hl, ho, hL => by
  have hp:=hL p (Du2 ..)
  have hs : rangeOk (Ag9 o p):=ho.set _ _ (L4 _ _)
  obtain ⟨h1, h2, h3⟩:=Ad4 m r (Ag9 o p) (by unfold Ag9; rw [Dz2]; exact hl) hs (fun q hq => hL q (Dv9 _ hq))
  refine ⟨h1, h2, fun x => ?_⟩
  have hx:=ho.get x
  have hnn:=W0 x r
  rw [Dw1, h3 x]
  unfold Ag9
  rw [set_getD _ _ _ _ (by rw [hl]; exact hp), S8]
  by_cases h : p.1 = x
  ·subst h
   rw [Dr2 rfl, Dr2 rfl]
   unfold Y2
   omega
  ·rw [Dr1 h, Dr1 h]
   omega
theorem Aw7 {a b : List Int} (hl : a.length = b.length) (h : ∀ x, a.getD x 0 = b.getD x 0) : a = b:=by
 apply Dz8 hl
 intro i h1 h2
 have:=h i
 simpa [Dr3, Dr5 h1, Dr5 h2] using this
theorem Dd1 (x : Nat) (o : Int) (ho : 0 ≤ o) : ∀ L : List (Nat × Int), min 9223372036854775807 (o + S8 x (L.map fun p => (p.1, min 9223372036854775807 p.2))) = min 9223372036854775807 (o + S8 x L):=by
 have key : ∀ L : List (Nat × Int), S8 x (L.map fun p => (p.1, min 9223372036854775807 p.2)) ≤ S8 x L ∧ min 9223372036854775807 (S8 x L) ≤ S8 x (L.map fun p => (p.1, min 9223372036854775807 p.2)):=fun L => by
  induction L with
  | nil => exact ⟨Int.le_refl _, by show min _ (0 : Int) ≤ 0; omega⟩
  | cons p r ih =>
   have h1:=W0 x r
   have h2:=W0 x (r.map fun p => (p.1, min 9223372036854775807 p.2))
   rw [Dt7, S8, S8]
   split <;> constructor <;> dsimp only at * <;> omega
 intro L
 have:=key L
 have:=W0 x L
 omega
def Z2 (E : DE) (l : List St) (v : Int) (n k : Nat) : List (Nat × Int):=(List.range k).map fun b => (Aj5 E l n b, v)
def Az4 (E : DE) (l : List St) (v : Int) (n k : Nat) : List (Nat × Int):=(List.range k).map fun i => ((l.getD n default).next.getD i 0, v * (Q9 (I8 E.f 256 i) : Nat))
theorem Cb7 (f : List Nat) (i : Nat) : Q9 (I8 f 256 i) = ((List.range 256).filter fun b => decide (f.getD b 0 = i)).length:=by
 unfold Q9 I8
 congr 1
 apply List.filter_congr
 intro b hb
 rw [Cg7]
 simp [Du0.1 hb]
theorem Y6 (x : Nat) (g : Nat → Nat) (h : Nat → Int) (k : Nat) : S8 x ((List.range (k + 1)).map fun i => (g i, h i)) = S8 x ((List.range k).map fun i => (g i, h i)) + (if g k = x then max (h k) 0 else 0):=by
 rw [Dt4, Dv4, Av3]
 simp [S8]
theorem Bi9 (f nx : List Nat) (x nB : Nat) (v : Int) (hv : 0 ≤ v) : ∀ k, (∀ b, b < k → f.getD b 0 < nB) → S8 x ((List.range k).map fun b => (nx.getD (f.getD b 0) 0, v)) = S8 x ((List.range nB).map fun i => (nx.getD i 0, v * (((List.range k).filter fun b => decide (f.getD b 0 = i)).length : Nat)))
 | 0, _ => by
  have : ∀ m, S8 x ((List.range m).map fun i => (nx.getD i 0, v * (((List.range 0).filter fun b => decide (f.getD b 0 = i)).length : Nat))) = 0:=fun m => by
   induction m with
   | zero => rfl
   | succ m ih =>
    rw [Y6, ih]
    simp
  rw [this]
  rfl
 | k + 1, hf => by
  have ih:=Bi9 f nx x nB v hv k (fun b hb => hf b (by omega))
  rw [Y6, ih]
  have hk:=hf k (by omega)
  have key : ∀ m, S8 x ((List.range m).map fun i => (nx.getD i 0, v * (((List.range (k + 1)).filter fun b => decide (f.getD b 0 = i)).length : Nat))) = S8 x ((List.range m).map fun i => (nx.getD i 0, v * (((List.range k).filter fun b => decide (f.getD b 0 = i)).length : Nat))) + (if f.getD k 0 < m ∧ nx.getD (f.getD k 0) 0 = x then v else 0):=fun m => by
   induction m with
   | zero => simp [S8]
   | succ m ihm =>
    rw [Y6, Y6, ihm]
    rw [Dt4 (n:=k), Dx0, Dr7]
    have hnn : ∀ c : Nat, 0 ≤ v * (c : Int):=fun c => Ea9 hv (by omega)
    by_cases h1 : f.getD k 0 = m
    ·rw [show (List.filter (fun b => decide (f.getD b 0 = m)) [k]).length = 1 by rw [Dx6, Ds2 h1]; rfl]
     generalize ((List.range k).filter fun b => decide (f.getD b 0 = m)).length = c
     have e1 : v * ((c + 1 : Nat) : Int) = v * (c : Int) + v:=by
      rw [show ((c + 1 : Nat) : Int) = (c : Int) + 1 by omega, Int.mul_add, Int.mul_one]
     have:=hnn c
     rw [e1, h1]
     by_cases h2 : nx.getD m 0 = x
     ·rw [Dr2 h2, Dr2 h2, Dr1 (by omega), Dr2 ⟨by omega, h2⟩]
      omega
     ·rw [Dr1 h2, Dr1 h2, Dr1 (by omega), Dr1 (fun h => h2 h.2)]
    ·rw [show (List.filter (fun b => decide (f.getD b 0 = m)) [k]).length = 0 by rw [Dx6, Ds4 h1]; rfl]
     rw [Nat.add_zero]
     have e : (f.getD k 0 < m + 1 ∧ nx.getD (f.getD k 0) 0 = x) = (f.getD k 0 < m ∧ nx.getD (f.getD k 0) 0 = x):=propext ⟨fun h => ⟨by have:=h.1; omega, h.2⟩, fun h => ⟨by have:=h.1; omega, h.2⟩⟩
     simp only [e]
     exact Int.add_right_comm _ _ _
  rw [key nB]
  congr 1
  by_cases h2 : nx.getD (f.getD k 0) 0 = x
  ·rw [Dr2 h2, Dr2 ⟨hk, h2⟩]; omega
  ·rw [Dr1 h2, Dr1 (fun h => h2 h.2)]
def Ac9 (E : DE) (l : List St) (v : List Int) (o : List Int) (n : Nat) : List Int:=(Z2 E l (v.getD n 0) n 256).foldl Ag9 o
def lstep (E : DE) (l : List St) (v : List Int) : List Int:=(List.range v.length).foldl (Ac9 E l v) (List.replicate v.length 0)
theorem Bn1 (E : DE) (l : List St) (v : List Int) (hv : rangeOk v) (n : Nat) : ∀ (k : Nat) (o : List Int), rangeOk o → (List.range k).foldl (Ag2 E l v n) o = (((Az4 E l (v.getD n 0) n k).map fun p => (p.1, min 9223372036854775807 p.2))).foldl Ag9 o
 | 0, o, _ => rfl
 | k + 1, o, ho => by
  have ih:=Bn1 E l v hv n k o ho
  unfold Az4 at ih ⊢
  rw [Dt4, Dt0, ih, Dv4, Dv4, Dt0]
  simp only [Dt7, List.map_nil, Dw1, Dv5]
  have hr : rangeOk ((((List.range k).map fun i => ((l.getD n default).next.getD i 0, v.getD n 0 * (Q9 (I8 E.f 256 i) : Nat))).map fun p => (p.1, min 9223372036854775807 p.2)).foldl Ag9 o):=by
   have h:=(Ac2 (Ag2 E l v n) o.length (fun o' a h1 h2 => Bf0 E l v n o.length o' a h1 h2) (List.range k) o rfl ho).2
   rw [ih] at h
   exact h
  have hone : ∀ Q : List Int, rangeOk Q → Ag2 E l v n Q k = Ag9 Q ((l.getD n default).next.getD k 0, min 9223372036854775807 (v.getD n 0 * (Q9 (I8 E.f 256 k) : Nat))):=fun Q hQ => by
   have hvn:=hv.get n
   have hq:=hQ.get ((l.getD n default).next.getD k 0)
   unfold Ag2 Ag9
   dsimp only
   rw [Ay6 _ _ hq.1 hq.2, Ah2 _ _ hvn.1 hvn.2]
   unfold Ag0
   rw [Ea7 hvn.1, Ea7 (by omega)]
  exact hone _ hr
theorem Bw2 (E : DE) (l : List St) (v : List Int) (hg : DGood E l) (hv : rangeOk v) (n : Nat) (hn : n < l.length) (o : List Int) (ho : rangeOk o) (hl : o.length = l.length) : Ax4 E l v o n = Ac9 E l v o n:=by
 have hvn:=hv.get n
 have hnx:=hg.nx n hn
 have hmem : ∀ i, i < E.nB → (l.getD n default).next.getD i 0 < l.length:=fun i hi => hg.nv n hn _ (H4 _ 0 i (by rw [hnx]; exact hi))
 unfold Ax4
 rw [hnx, Bn1 E l v hv n E.nB o ho]
 unfold Ac9
 have h1:=Ad4 l.length ((Az4 E l (v.getD n 0) n E.nB).map fun p => (p.1, min 9223372036854775807 p.2)) o hl ho (fun p hp => by
  obtain ⟨q, hq, rfl⟩:=Dv6.1 hp
  obtain ⟨i, hi, rfl⟩:=Dv6.1 hq
  exact hmem i (Du0.1 hi))
 have h2:=Ad4 l.length (Z2 E l (v.getD n 0) n 256) o hl ho (fun p hp => by
  obtain ⟨b, hb, rfl⟩:=Dv6.1 hp
  exact hmem _ (hg.fv b (Du0.1 hb)))
 refine Aw7 (by rw [h1.1, h2.1]) fun x => ?_
 rw [h1.2.2 x, h2.2.2 x, Dd1 x _ (ho.get x).1]
 congr 2
 have:=Bi9 E.f (l.getD n default).next x E.nB (v.getD n 0) hvn.1 256 hg.fv
 unfold Z2 Az4 Aj5
 rw [this]
 simp only [Cb7]
theorem lstep_eq (E : DE) (l : List St) (v : List Int) (hg : DGood E l) (hv : rangeOk v) (hl : v.length = l.length) : lstep E l v = Ck3 E l v:=by
 unfold lstep Ck3
 rw [hl]
 have key : ∀ k, k ≤ l.length → (List.range k).foldl (Ac9 E l v) (List.replicate l.length 0) = (List.range k).foldl (Ax4 E l v) (List.replicate l.length 0):=fun k => by
  induction k with
  | zero => intro _; rw [List.range_zero, Dv5, Dv5]
  | succ k ih =>
   intro hk
   have h:=Ac2 (Ax4 E l v) l.length (fun o n h1 h2 => Be9 E l v l.length o n h1 h2) (List.range k) (List.replicate l.length 0) (by simp) (Ao2 _)
   rw [Dt4, Dt0, Dt0, ih (by omega), Dw1, Dv5, Dw1, Dv5]
   exact (Bw2 E l v hg hv k (by omega) _ h.2 h.1).symm
 exact key _ (Ds3 _)
theorem Ch6 (E : DE) (l : List St) (v : List Int) (hg : DGood E l) (n : Nat) (hn : n < l.length) (o : List Int) (ho : rangeOk o) (hl : o.length = l.length) (h0 : v.getD n 0 ≤ 0) : Ac9 E l v o n = o:=by
 have hnx:=hg.nx n hn
 unfold Ac9
 have h2:=Ad4 l.length (Z2 E l (v.getD n 0) n 256) o hl ho (fun p hp => by
  obtain ⟨b, hb, rfl⟩:=Dv6.1 hp
  exact hg.nv n hn _ (H4 _ 0 _ (by rw [hnx]; exact hg.fv b (Du0.1 hb))))
 refine Aw7 (by rw [h2.1, hl]) fun x => ?_
 rw [h2.2.2 x]
 have hx:=ho.get x
 have : S8 x (Z2 E l (v.getD n 0) n 256) = 0:=by
  unfold Z2
  have : ∀ k, S8 x ((List.range k).map fun b => (Aj5 E l n b, v.getD n 0)) = 0:=fun k => by
   induction k with
   | zero => rfl
   | succ k ih => rw [Y6 x (fun b => Aj5 E l n b) (fun _ => v.getD n 0), ih]; split <;> omega
  exact this 256
 rw [this]
 omega
theorem Cc4 (E : DE) (l : List St) (v : Int) (n k : Nat) (o : List Int) : (Z2 E l v n (k + 1)).foldl Ag9 o = Ag9 ((Z2 E l v n k).foldl Ag9 o) (Aj5 E l n k, v):=by
 unfold Z2
 rw [Dt4, Dv4, Dt0]
 rfl
theorem Bn0 (F : Nat → Prop) (p : Nat) (E : DE) (l : List St) (n : Int) (hn : n < 0 ∨ 1000 < n) (w : World) (hD : IsDfa F w p E l) : Calls P 14 #[.pointer (some ⟨p, 0, none⟩), .int .i64 n] w (Ret fun u w' => u = .int .i64 0 ∧ Chg [] w w'):=by
 have hC:=A8 [] w
 refine D3 Tryz.func14 rfl rfl (Qd (Zc 1 rfl (Qa (Qd (Z 3 rfl (B7 (d:=11) rfl (fun h1 => ?_) (fun h1 => ?_)))))))
 ·try simp at h1
  exact Qk rfl (Qk rfl (Z 2 rfl (Qk rfl (Qk rfl (Qk rfl (Zc 1 rfl (E1 rfl (Qd (Zc 1 rfl (A6 (B1 rfl rfl ⟨rfl, hC⟩)))))))))))
 ·try simp at h1
  refine Qu rfl (Z 1 rfl (Qu rfl (Z 3 rfl (B7 (d:=15) rfl (fun h2 => ?_) (fun h2 => ?_)))))
  ·try simp at h2
   exact Qk rfl (Qk rfl (Qk rfl (Zc 1 rfl (E1 rfl (Qd (Zc 1 rfl (A6 (B1 rfl rfl ⟨rfl, hC⟩))))))))
  ·try simp at h2
   exfalso
   omega
def Cl6 (E : DE) (l : List St) (v : List Int) (k b : Nat) : List Int:=(Z2 E l (v.getD k 0) k b).foldl Ag9 ((List.range k).foldl (Ac9 E l v) (List.replicate l.length 0))
theorem As0 (E : DE) (l : List St) (v : List Int) (k : Nat) : Cl6 E l v k 0 = (List.range k).foldl (Ac9 E l v) (List.replicate l.length 0):=rfl
theorem Do5 (E : DE) (l : List St) (v : List Int) (k b : Nat) : Cl6 E l v k (b + 1) = Ag9 (Cl6 E l v k b) (Aj5 E l k b, v.getD k 0):=Cc4 E l _ k b _
theorem Cc6 (E : DE) (l : List St) (v : List Int) (k : Nat) : Cl6 E l v k 256 = (List.range (k + 1)).foldl (Ac9 E l v) (List.replicate l.length 0):=by
 unfold Cl6
 rw [Dt4, Dt0, Dw1, Dv5]
 show _ = Ac9 E l v _ k
 rw [Ac9]
theorem Cq3 (E : DE) (l : List St) (v : List Int) (hg : DGood E l) (hv : rangeOk v) (k : Nat) (hk : k ≤ l.length) : ((List.range k).foldl (Ac9 E l v) (List.replicate l.length 0)).length = l.length ∧ rangeOk ((List.range k).foldl (Ac9 E l v) (List.replicate l.length 0)):=by
 induction k with
 | zero => exact ⟨by simp, Ao2 _⟩
 | succ k ih =>
  obtain ⟨h1, h2⟩:=ih (by omega)
  rw [Dt4, Dt0, Dw1, Dv5, ← Bw2 E l v hg hv k (by omega) _ h2 h1]
  exact Be9 E l v _ _ k h1 h2
theorem bsum_ok (E : DE) (l : List St) (v : List Int) (hg : DGood E l) (hv : rangeOk v) (k : Nat) (hk : k < l.length) (b : Nat) (hb : b ≤ 256) : (Cl6 E l v k b).length = l.length ∧ rangeOk (Cl6 E l v k b):=by
 obtain ⟨h1, h2⟩:=Cq3 E l v hg hv k (by omega)
 have hnx:=hg.nx k hk
 have h:=Ad4 l.length (Z2 E l (v.getD k 0) k b) _ h1 h2 (fun p hp => by
  obtain ⟨c, hc, rfl⟩:=Dv6.1 hp
  exact hg.nv k hk _ (H4 _ 0 _ (by rw [hnx]; exact hg.fv c (by have:=Du0.1 hc; omega))))
 exact ⟨h.1, h.2.1⟩
theorem Cc2 (l : List St) (v : List Int) (s : Int) (k : Nat) (hs : 0 ≤ s ∧ s ≤ 9223372036854775807) : Cc3 l v s k = if (l.getD k default).meant then Y2 s (v.getD k 0) else s:=by
 unfold Cc3
 split
 ·rw [Ay6 _ _ hs.1 hs.2]
 ·rfl
theorem csum_ok (l : List St) (v : List Int) (k : Nat) : 0 ≤ (List.range k).foldl (Cc3 l v) 0 ∧ (List.range k).foldl (Cc3 l v) 0 ≤ 9223372036854775807:=by
 induction k with
 | zero => rw [List.range_zero, Dv5]; omega
 | succ k ih => rw [Dt4, Dt0]; exact Cl2 l v _ k ih
theorem counts_c (s : ByteArray) (m n : Int) (w : World) (hL : Laid w) : Calls P 3 #[.string s, .int .i64 m, .int .i64 n] w (Ret fun u w' => u = .bool true ∧ Chg [] w w'):=by
 have hC:=A8 [] w
 try have hz4:=hL.sz
 refine D3 Tryz.func3 rfl rfl (Qd (Zc 1 rfl (Qd (Z 2 rfl (Ca fb11 rfl (Df1 s m _ hL) ?_)))))
 rintro v6 w1 ⟨hx1, hno, hyes⟩
 have hz1:=hx1.size
 have hC:=hC.s0 hx1
 have hL:=hL.u hx1
 by_cases hf : Au0 (C2 s) m = true
 ·obtain ⟨cs, p, rfl, hR, hA⟩:=hyes hf
  have hq : (V8 (Q6 (C2 s) m).1).2.S.length ≤ 600:=by
   rw [Cn0]
   unfold Au0 at hf
   simp only [Dr8, Du9] at hf
   exact hf.2
  generalize V8 (Q6 (C2 s) m).1 = kq at *
  obtain ⟨k, q⟩:=kq
  simp only [] at hA hq
  obtain ⟨As, cS, pf, pl, bt, bs, rfl, _⟩:=hR
  refine Z 4 rfl (B4 rfl (B6 zr27 rfl) ?_)
  intro b2 w2 hb2 hs2 hx2 hB2
  have hA:=hA.u hx2
  refine Z 1 rfl (Pe sz27 rfl ‹_› rfl rfl ?_)
  intro w3 hs3 hx3 hB2
  have hC:=hC.step (hx2.j hx3) (by simp <;> omega)
  have hL:=hL.q (hx2.j hx3) (by simp <;> omega)
  have hA:=hA.q hx3 (by intro x hx hf; have hx:=Dr4.1 hx; have h1:=hf.1; have h2:=hf.2.1; omega)
  refine Zc 1 rfl (Qa (Qd (Z 3 rfl (B7 (d:=30) rfl (fun g0 => ?_) (fun g0 => ?_)))))
  ·try simp at g0
   all_goals simp at g0
  ·try simp at g0
   refine Qu rfl (Fa fl27_0 rfl (Qu rfl (Lb o23 rfl ‹_› (by rfl) ?_)))
   refine Qu rfl (Ln Tryz.underlying23 rfl (Qu rfl (Z 3 rfl (B7 (d:=36) rfl (fun g1 => ?_) (fun g1 => ?_)))))
   ·try simp at g1
    refine Qk rfl (Qk rfl (Zc 1 rfl (E1 rfl (Qd (Ca fb12 rfl (Cm0 _ hL) ?_)))))
    rintro _ w4 ⟨rfl, hx4⟩
    have hC:=hC.s0 hx4
    exact Zc 1 rfl (A6 (B1 rfl rfl ⟨rfl, hC⟩))
   ·try simp at g1
    refine Qu rfl (Ca fb12 rfl (Cm0 _ hL) ?_)
    rintro _ w5 ⟨rfl, hx5⟩
    have hz5:=hx5.size
    have hL:=hL.u hx5
    have hA:=hA.u hx5
    refine Qu rfl (Zc 2 rfl (E3 (rfl) (A7 (Qd (Z 1 rfl (Ca fb13 rfl (dnew_c _ p k q 60 _ hA (fun z hz => by have:=hz.2.1; omega) hL hq (by omega)) ?_))))))
    rintro v9 w6 ⟨hx6, hnone, hsome⟩
    have hz6:=hx6.size
    have hC:=hC.s0 (hx5.s0 hx6)
    by_cases hd : dfaP k q 60 = none
    ·have hv:=hnone hd
     subst hv
     exact Zc 5 rfl (Qa (Qd (Zc 2 rfl (E1 (rfl) (Qd (Z 1 rfl (C7 rfl (H2 Tryz.underlying31 rfl rfl) (Zc 1 rfl (A6 (B1 rfl rfl ⟨rfl, hC⟩))))))))))
    ·obtain ⟨l, hl⟩ : ∃ l, dfaP k q 60 = some l:=by
      cases h : dfaP k q 60 with
      | none => exact absurd h hd
      | some l => exact ⟨l, rfl⟩
     obtain ⟨pd, rfl, hD⟩:=hsome l hl
     generalize Cz0 k q 60 = E at *
     have hD:=hD.mono (F':=fun x => x < w6.heap.size) (fun z _ hz => hz)
     have hg:=hD.good
     have hps:=hg.pos
     have hle:=hg.le
     refine Zc 5 rfl (Qa (Qd (Zc 2 rfl (E3 (rfl) (A7 (Qa (Qd (Z 3 rfl (B7 (d:=52) rfl (fun n1 => ?_) (fun n1 => ?_))))))))))
     ·try simp at n1
      refine Qk rfl (Qk rfl (Zc 1 rfl (E1 rfl (Qd (Z 2 rfl (Ca fb14 rfl (Bn0 _ pd E l n (by omega) _ hD) ?_))))))
      rintro _ w7 ⟨rfl, hx7⟩
      have hC:=hC.s0 hx7
      exact Zc 2 rfl (A6 (B1 rfl rfl ⟨rfl, hC⟩))
     ·try simp at n1
      refine Qu rfl (Z 1 rfl (Qu rfl (Zc 2 rfl (A4 rfl (fun n2 => ?_) (fun n2 => ?_)))))
      ·try simp at n2
       refine Qd (Z 2 rfl (Ca fb14 rfl (Bn0 _ pd E l n (by omega) _ hD) ?_))
       rintro _ w8 ⟨rfl, hx8⟩
       have hC:=hC.s0 hx8
       exact Zc 2 rfl (A6 (B1 rfl rfl ⟨rfl, hC⟩))
      ·try simp at n2
       obtain ⟨n, rfl⟩ : ∃ j : Nat, n = (j : Int):=⟨n.toNat, by omega⟩
       refine A7 (Qd (Z 1 rfl (Ca fb15 rfl (Z0 _ pd E l _ hD) ?_)))
       rintro _ w9 ⟨rfl, hx9⟩
       have hz9:=hx9.size
       refine B4 rfl (L8 Cr7 zr3 rfl (cs:=H6 (List.replicate l.length 0)) (by omega) (by omega) (by show (madeCells #[_] (((l.length : Nat) : Int).toNat * 1)).toList = _; rw [Ds1, Dv1, P9]; simp [H6])) ?_
       intro b10 w10 hb10 hs10 hx10 hB10
       refine Zc 1 rfl (Qd (Z 1 rfl (C7 rfl (B3 T3 rfl rfl (by omega) (by omega)) (Pb (cs':=(H6 (Av5 l.length))) sz3 rfl rfl hB10 rfl rfl rfl (by rw [F7, Du6, Dw7]; omega) (by rw [Int.toNat_zero, Dt2, U8 _ _ _ (by rw [F7, Du6]; omega)]; unfold Av5; simp [H6, Dx7]) ?_))))
       intro w11 hs11 hx11 hB10
       have hC:=hC.step ((hx9.j hx10).j hx11) (by simp <;> omega)
       have hD:=hD.q ((hx9.j hx10).j hx11) (by simp <;> omega)
       refine Qc (Qa (Qd (Zc 1 rfl (B0 (D7 (σ:=Nat × Nat) (fun (i, bv) => [(2, .int .i64 (n : Nat)), (10, .pointer (some ⟨pd, 0, none⟩)), (12, .slice (some ⟨bv, 0, none⟩) l.length l.length), (13, .int .i64 (i : Nat))]) (fun (i, bv) wr => Chg [] w wr ∧ IsDfa (fun x => x < w6.heap.size) wr pd E l ∧ Blk wr bv (H6 (Ab6 E l i)) 3 ∧ i ≤ n ∧ i ≤ 12 ∧ w6.heap.size ≤ wr.heap.size) (fun (i, bv) wr => 12 - i) (0, b10) (sb rfl) ?_ ?_)))))
       ·exact ⟨hC, hD, hB10, Ds0 _, Ds0 _, by omega⟩
       rintro ⟨i, bv⟩ w20 ⟨hC, hD, hBv, hin, hi12, hz20⟩
       have hvok:=Ck1 E l i
       refine Qa (I1 (fun e9 wr => Sub [(2, .int .i64 (n : Nat)), (10, .pointer (some ⟨pd, 0, none⟩)), (12, .slice (some ⟨bv, 0, none⟩) l.length l.length), (13, .int .i64 (i : Nat)), (71, .bool (decide (i < n ∧ i < 12)))] e9 ∧ Chg [] w wr ∧ IsDfa (fun x => x < w6.heap.size) wr pd E l ∧ Blk wr bv (H6 (Ab6 E l i)) 3 ∧ w6.heap.size ≤ wr.heap.size) ?_ ?_)
       ·refine Qb (Z 4 rfl (B7 (d:=68) rfl (fun g2 => ?_) (fun g2 => ?_)))
        ·try simp at g2
         refine Qu rfl (Z 1 rfl (Qu rfl (Zc 2 rfl ⟨⟨rfl, rfl, rfl, rfl, (G9 rfl (by rw [Ds6, cmpB_lss, Ds5]; omega)), trivial⟩, ?_⟩)))
         exact ⟨hC, hD, hBv, by omega⟩
        ·try simp at g2
         refine Qk rfl (Qk rfl (Zc 1 rfl ⟨⟨rfl, rfl, rfl, rfl, (G9 rfl (by rw [Ds4 (by omega)])), trivial⟩, ?_⟩))
         exact ⟨hC, hD, hBv, by omega⟩
       rintro e9 w21 ⟨hs9, hC, hD, hBv, hz21⟩
       refine I0 _ hs9 ?_
       clear hs9 e9
       try have hzw:=hC.size
       try have hlBv:=hBv.lt
       refine A4 rfl (fun g3 => ?_) (fun g3 => ?_)
       ·try simp at g3
        refine A7 (Qa (B0 (Qd (Z 1 rfl (Ca fb15 rfl (Z0 _ pd E l _ hD) ?_)))))
        rintro _ w12 ⟨rfl, hx12⟩
        have hz12:=hx12.size
        refine B4 rfl (L8 Cr7 zr3 rfl (cs:=H6 (List.replicate l.length 0)) (by omega) (by omega) (by show (madeCells #[_] (((l.length : Nat) : Int).toNat * 1)).toList = _; rw [Ds1, Dv1, P9]; simp [H6])) ?_
        intro b13 w13 hb13 hs13 hx13 hB13
        have hC:=hC.s0 (hx12.s0 hx13)
        have hD:=hD.u (hx12.s0 hx13)
        have hBv:=hBv.u (hx12.s0 hx13)
        have hlv:=hBv.lt
        have hbv13 : bv < b13:=by omega
        have hw13 : w6.heap.size ≤ b13:=by omega
        refine Zc 1 rfl (Qa (Qd (Zc 1 rfl (B0 (D7 (σ:=Nat) (fun k => [(2, .int .i64 (n : Nat)), (10, .pointer (some ⟨pd, 0, none⟩)), (12, .slice (some ⟨bv, 0, none⟩) l.length l.length), (13, .int .i64 (i : Nat)), (14, .slice (some ⟨b13, 0, none⟩) l.length l.length), (15, .int .i64 (k : Nat))]) (fun k wr => Chg [] w wr ∧ IsDfa (fun x => x < w6.heap.size) wr pd E l ∧ Blk wr bv (H6 (Ab6 E l i)) 3 ∧ Blk wr b13 (H6 (Cl6 E l (Ab6 E l i) k 0)) 3 ∧ k ≤ l.length) (fun k wr => l.length - k) 0 (sb rfl) ?_ ?_)))))
        ·exact ⟨hC, hD, hBv, by rw [As0, List.range_zero, Dv5]; assumption, Ds0 _⟩
        rintro k w22 ⟨hC, hD, hBv, hBo, hk⟩
        try have hlBo:=hBo.lt
        refine Qa (Qd (Z 2 rfl (Ca fb15 rfl (Z0 _ pd E l _ hD) ?_)))
        rintro _ w14 ⟨rfl, hx14⟩
        have hz14:=hx14.size
        have hC:=hC.s0 hx14
        have hD:=hD.u hx14
        have hBv:=hBv.u hx14
        have hBo:=hBo.u hx14
        refine Zc 1 rfl (A4 rfl (fun q1 => ?_) (fun q1 => ?_))
        ·try simp at q1
         have hkl : k < l.length:=by omega
         have hnx:=hg.nx k hkl
         have hvk:=hvok.2.get k
         refine A7 (Qa (B0 (Qd (Zc 1 rfl (B0 (D7 (σ:=Nat) (fun b => [(2, .int .i64 (n : Nat)), (10, .pointer (some ⟨pd, 0, none⟩)), (12, .slice (some ⟨bv, 0, none⟩) l.length l.length), (13, .int .i64 (i : Nat)), (14, .slice (some ⟨b13, 0, none⟩) l.length l.length), (15, .int .i64 (k : Nat)), (16, .int .i64 (b : Nat))]) (fun b wr => Chg [] w wr ∧ IsDfa (fun x => x < w6.heap.size) wr pd E l ∧ Blk wr bv (H6 (Ab6 E l i)) 3 ∧ Blk wr b13 (H6 (Cl6 E l (Ab6 E l i) k b)) 3 ∧ b ≤ 256 ∧ (b = 0 ∨ 0 < (Ab6 E l i).getD k 0)) (fun b wr => 256 - b) 0 (sb rfl) ?_ ?_))))))
         ·exact ⟨hC, hD, hBv, hBo, Ds0 _, .inl rfl⟩
         rintro b w23 ⟨hC, hD, hBv, hBo, hb, hb0⟩
         refine Qa (I1 (fun e9 wr => Sub [(2, .int .i64 (n : Nat)), (10, .pointer (some ⟨pd, 0, none⟩)), (12, .slice (some ⟨bv, 0, none⟩) l.length l.length), (13, .int .i64 (i : Nat)), (14, .slice (some ⟨b13, 0, none⟩) l.length l.length), (15, .int .i64 (k : Nat)), (16, .int .i64 (b : Nat)), (91, .bool (decide (b < 256 ∧ 0 < (Ab6 E l i).getD k 0)))] e9 ∧ Chg [] w wr ∧ IsDfa (fun x => x < w6.heap.size) wr pd E l ∧ Blk wr bv (H6 (Ab6 E l i)) 3 ∧ Blk wr b13 (H6 (Cl6 E l (Ab6 E l i) k b)) 3) ?_ ?_)
         ·refine Qb (Z 3 rfl (B7 (d:=85) rfl (fun q2 => ?_) (fun q2 => ?_)))
          ·try simp at q2
           refine Qu rfl (Z 1 rfl (Qu rfl (Z 1 rfl (Qu rfl (C7 rfl (B3 T3 rfl rfl (by omega) (by omega)) (Qu rfl (Lc o3 rfl (by rw [hBv.cell, Dt2]; exact K2 _ k (by rw [hvok.1]; omega)) ?_)))))))
           refine Qu rfl (Zc 2 rfl ⟨⟨rfl, rfl, rfl, rfl, rfl, rfl, rfl, (G9 rfl (by rw [Ds6, cmpB_gtr, Ds5]; omega)), trivial⟩, ?_⟩)
           exact ⟨hC, hD, hBv, hBo⟩
          ·try simp at q2
           refine Qk rfl (Qk rfl (Qk rfl (Qk rfl (Qk rfl (Zc 1 rfl ⟨⟨rfl, rfl, rfl, rfl, rfl, rfl, rfl, (G9 rfl (by rw [Ds4 (by omega)])), trivial⟩, ?_⟩)))))
           exact ⟨hC, hD, hBv, hBo⟩
         rintro e9 w24 ⟨hs9, hC, hD, hBv, hBo⟩
         refine I0 _ hs9 ?_
         clear hs9 e9
         refine A4 rfl (fun q3 => ?_) (fun q3 => ?_)
         ·have q3:=Dw9 q3
          have hb256 : b < 256:=by have:=q3.1; omega
          have hvp : 0 < (Ab6 E l i).getD k 0:=q3.2
          have hbs:=bsum_ok E l (Ab6 E l i) hg hvok.2 k hkl b (by omega)
          have hxl : Aj5 E l k b < l.length:=hg.nv k hkl _ (H4 _ 0 _ (by rw [hnx]; exact hg.fv b hb256))
          have hox:=hbs.2.get (Aj5 E l k b)
          refine A7 (Qa (B0 (Qd (Z 3 rfl (C7 rfl (H0 kn3 Tryz.underlying5 rfl (by exact Ad8 (by omega))) ?_)))))
          refine Ca fb16 rfl (Dm8 _ pd E l k b hkl hb256 _ hD) ?_
          rintro _ w15 ⟨rfl, hx15⟩
          refine Zc 5 rfl (C6 (S:=[]) 11 [(0, 0), (0, 1), (0, 2), (0, 3), (0, 4), (0, 5), (0, 6), (0, 7), (0, 8), (0, 9), (1, 10), (2, 11), (2, 12)] mo (by kernel_rfl) ?_)
          intro w16 hx16 hh16
          have hz16:=hx16.size
          have hBv:=hBv.u (hx15.s0 hx16)
          have hBo:=hBo.u (hx15.s0 hx16)
          have hCS16:=A8 ([]) w16
          refine Z 4 rfl (D5 rfl (B3 T3 rfl rfl (by omega) (by omega)) (D5 rfl (E5 o3 rfl (by rw [hBo.cell, Dt2]; exact K2 _ _ (by rw [hbs.1]; exact hxl)) (by simp; done)) ?_))
          refine Z 2 rfl (D5 rfl (B3 T3 rfl rfl (by omega) (by omega)) (D5 rfl (E5 o3 rfl (by rw [hBv.cell, Dt2]; exact K2 _ k (by rw [hvok.1]; exact hkl)) (by simp; done)) ?_))
          refine C4 rfl (C0 Ce3 rfl) (X1 ((Cl6 E l (Ab6 E l i) k b).getD (Aj5 E l k b) 0) ((Ab6 E l i).getD k 0) hox.2 hvk.2 _) ?_
          rintro _ _ ⟨rfl, rfl⟩
          refine ⟨hCS16, ?_⟩
          refine C7 rfl (B3 T3 rfl rfl (by omega) (by omega)) (Pb (cs':=(H6 (Cl6 E l (Ab6 E l i) k (b + 1)))) sz3 rfl rfl hBo rfl rfl rfl (by rw [F7, hbs.1, Dw7]; omega) (by rw [Ds1, Dt2, U8 _ _ _ (by rw [F7, hbs.1]; exact hxl), Do5]; unfold Ag9; simp [H6, Dx7]) ?_)
          intro w18 hs18 hx18 hBo
          have hC:=hC.step ((hx15.j hx16).j hx18) (by simp <;> omega)
          have hD:=hD.q ((hx15.j hx16).j hx18) (by simp <;> omega)
          have hBv:=hBv.q hx18 (by simp; omega)
          refine Qc (Qb (Z 1 rfl (Ad rfl rfl (by omega) (Zc 1 rfl ⟨b + 1, sb rfl, ?_, ?_⟩))))
          exact ⟨hC, hD, hBv, hBo, by omega, .inr hvp⟩
          show 256 - (b + 1) < 256 - b
          omega
         ·have q3:=of_decide_eq_false q3
          have hfin : Cl6 E l (Ab6 E l i) k b = Cl6 E l (Ab6 E l i) (k + 1) 0:=by
           rw [As0, ← Cc6]
           by_cases hbb : b = 256
           ·rw [hbb]
           ·have hv0 : ¬ 0 < (Ab6 E l i).getD k 0:=fun h => q3 ⟨by omega, h⟩
            have hb1 : b = 0:=by rcases hb0 with h | h; exact h; exact absurd h hv0
            obtain ⟨h1, h2⟩:=Cq3 E l (Ab6 E l i) hg hvok.2 k (by omega)
            rw [hb1, Cc6, Dt4, Dt0, Dw1, Dv5, Ch6 E l (Ab6 E l i) hg k hkl _ h2 h1 (by omega), As0]
          rw [hfin] at hBo
          refine Xb (Qb (Z 1 rfl (Ad rfl rfl (by omega) (Zc 1 rfl ⟨k + 1, sb rfl, ?_, ?_⟩))))
          exact ⟨hC, hD, hBv, hBo, hkl⟩
          show l.length - (k + 1) < l.length - k
          omega
        ·try simp at q1
         have hkk : k = l.length:=by omega
         subst hkk
         have hnext : Cl6 E l (Ab6 E l i) l.length 0 = Ab6 E l (i + 1):=by
          rw [As0]
          have:=lstep_eq E l (Ab6 E l i) hg hvok.2 hvok.1
          unfold lstep at this
          rw [hvok.1] at this
          rw [this]
          rfl
         rw [hnext] at hBo
         refine Xb (Qb (Zc 2 rfl (Qb (Z 1 rfl (Ad rfl rfl (by omega) (Zc 1 rfl ⟨(i + 1, b13), sb rfl, ?_, ?_⟩))))))
         exact ⟨hC, hD, hBo, by omega, by omega, by omega⟩
         show 12 - (i + 1) < 12 - i
         omega
       ·try simp at g3
        have hcase : i = n ∨ 12 ≤ i:=by
         by_cases h : i < n
         ·exact .inr (g3 h)
         ·exact .inl (by omega)
        refine Xb (Qd (Zc 1 rfl (Qa (Qd (Zc 1 rfl (B0 (D7 (σ:=Nat) (fun k => [(2, .int .i64 (n : Nat)), (10, .pointer (some ⟨pd, 0, none⟩)), (12, .slice (some ⟨bv, 0, none⟩) l.length l.length), (19, .int .i64 ((List.range k).foldl (Cc3 l (Ab6 E l i)) 0)), (20, .int .i64 (k : Nat))]) (fun k wr => Chg [] w wr ∧ IsDfa (fun x => x < w6.heap.size) wr pd E l ∧ Blk wr bv (H6 (Ab6 E l i)) 3 ∧ k ≤ l.length ∧ w6.heap.size ≤ wr.heap.size) (fun k wr => l.length - k) 0 (sb rfl) ?_ ?_)))))))
        ·exact ⟨hC, hD, hBv, Ds0 _, by omega⟩
        rintro k w25 ⟨hC, hD, hBv, hk, hz25⟩
        have hcs:=csum_ok l (Ab6 E l i) k
        have hvk:=hvok.2.get k
        refine Qa (Qd (Z 2 rfl (Ca fb15 rfl (Z0 _ pd E l _ hD) ?_)))
        rintro _ w19 ⟨rfl, hx19⟩
        have hz19:=hx19.size
        have hC:=hC.s0 hx19
        have hD:=hD.u hx19
        have hBv:=hBv.u hx19
        refine Zc 1 rfl (A4 rfl (fun q1 => ?_) (fun q1 => ?_))
        ·try simp at q1
         have hkl : k < l.length:=by omega
         have hme : (decide (0 ≤ (k : Int) ∧ (k : Int) < (l.length : Int)) && (l.getD ((k : Int)).toNat default).meant) = (l.getD k default).meant:=by rw [Ds2 ⟨by omega, by omega⟩, Ea3, Ds1]
         refine A7 (Qa (B0 (Qd (Z 2 rfl (Ca fb18 rfl (Cr8 _ pd E l (k : Nat) _ hD) ?_)))))
         rintro _ w20 ⟨rfl, hx20⟩
         have hz20:=hx20.size
         have hC:=hC.s0 hx20
         have hD:=hD.u hx20
         have hBv:=hBv.u hx20
         refine Qc (A4 rfl (fun m1 => ?_) (fun m1 => ?_))
         ·rw [hme] at m1
          refine Qb (Z 3 rfl (C7 rfl (B3 T3 rfl rfl (by omega) (by omega)) (Lc o3 rfl (by rw [hBv.cell, Dt2]; exact K2 _ k (by rw [hvok.1]; exact hkl)) ?_)))
          refine Ca Ce3 rfl (X1 ((List.range k).foldl (Cc3 l (Ab6 E l i)) 0) ((Ab6 E l i).getD k 0) hcs.2 hvk.2 _) ?_
          rintro _ _ ⟨rfl, rfl⟩
          refine Zc 1 rfl (Qb (Z 1 rfl (Ad rfl rfl (by omega) (Zc 1 rfl ⟨k + 1, ⟨rfl, rfl, rfl, (F9 rfl (by rw [Dt4, Dt0, Dw1, Dv5, Cc2 _ _ _ _ hcs, Dr2 m1])), rfl, trivial⟩, ?_, ?_⟩))))
          exact ⟨hC, hD, hBv, hkl, by omega⟩
          show l.length - (k + 1) < l.length - k
          omega
         ·rw [hme] at m1
          refine A7 (Qb (Z 1 rfl (Ad rfl rfl (by omega) (Zc 1 rfl ⟨k + 1, ⟨rfl, rfl, rfl, (F9 rfl (by rw [Dt4, Dt0, Dw1, Dv5, Cc2 _ _ _ _ hcs, Dr1 (by rw [m1]; simp)])), rfl, trivial⟩, ?_, ?_⟩))))
          exact ⟨hC, hD, hBv, hkl, by omega⟩
          show l.length - (k + 1) < l.length - k
          omega
        ·try simp at q1
         have hkk : k = l.length:=by omega
         subst hkk
         refine Xb (Qd (Z 3 rfl (B7 (d:=132) rfl (fun f1 => ?_) (fun f1 => ?_))))
         ·try simp at f1
          exact Qk rfl (Qk rfl (Qk rfl (Qk rfl (Qk rfl (Zc 2 rfl (A6 (B1 rfl rfl ⟨rfl, hC⟩)))))))
         ·try simp at f1
          refine Qu rfl (Z 1 rfl (Qu rfl (Z 1 rfl (Qu rfl (Ca fb14 rfl (Bu0 _ pd E l n (by omega) _ (fun x (hx : x < w6.heap.size) => by omega) hD) ?_)))))
          rintro _ w22 ⟨rfl, hx22⟩
          have hC:=hC.s0 hx22
          have hin2 : i = n:=by omega
          exact Qu rfl (Z 1 rfl (Qu rfl (Zc 3 rfl (A6 (B1 rfl rfl ⟨H9 (by rw [hin2]; unfold Cs4; rw [cmpB_eql]), hC⟩)))))
 ·have hf' : Au0 (C2 s) m = false:=by simpa using hf
  obtain ⟨cs, rfl, hone, hlen⟩:=hno hf'
  obtain ⟨a0, a1, a2, a3, a4, rfl⟩ : ∃ a0 a1 a2 a3 a4, cs = [a0, a1, a2, a3, a4]:=by
   match cs, hlen with
   | [a0, a1, a2, a3, a4], _ => exact ⟨a0, a1, a2, a3, a4, rfl⟩
  refine Z 4 rfl (B4 rfl (B6 zr27 rfl) ?_)
  intro b23 w23 hb23 hs23 hx23 hB23
  refine Z 1 rfl (Pb (cs':=[a0, a1, a2, a3, a4]) sz27 rfl rfl hB23 rfl rfl hone rfl rfl ?_)
  intro w24 hs24 hx24 hB24
  have hC:=hC.step (hx23.j hx24) (by simp <;> omega)
  have hL:=hL.q (hx23.j hx24) (by simp <;> omega)
  refine Zc 1 rfl (Qa (Qd (Z 3 rfl (B7 (d:=30) rfl (fun g0 => ?_) (fun g0 => ?_)))))
  ·try simp at g0
   refine Qk rfl (Qk rfl (Qk rfl (Qk rfl (Z 2 rfl (Qk rfl (Qk rfl (Zc 1 rfl (E1 rfl (Qd (Ca fb12 rfl (Cm0 _ hL) ?_))))))))))
   rintro _ w25 ⟨rfl, hx25⟩
   have hC:=hC.s0 hx25
   exact Zc 1 rfl (A6 (B1 rfl rfl ⟨rfl, hC⟩))
  ·try simp at g0
   all_goals simp at g0
end Go.Clt
