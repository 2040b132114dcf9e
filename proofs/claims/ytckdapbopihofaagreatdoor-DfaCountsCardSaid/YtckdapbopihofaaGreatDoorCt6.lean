import Derived.Test.YtckdapbopihofaaGreatDoorCt5
/- How many words of a length a pattern means: as many as there are ways, byte by byte (DfaCounts). Conditions: none beyond the statement's own. -/
set_option linter.unusedVariables false
set_option linter.unusedSimpArgs false
set_option maxRecDepth 8000
set_option maxHeartbeats 4000000
namespace Go.Clt
open Go Go.RowKit Go.Proofs
def Ap1 (l : List RTk) (size : Int) : Nat → Nat → Nat → Bool → Int × Int
 | 0, _, _, _ => (0, 0)
 | f + 1, i, d, a =>
  if i < l.length then
   let t := l.getD i default
   if t.kind = 0 then Ap1 l size f (i + 1) d true
   else if t.kind = 1 ∨ t.kind = 2 then (if 200 ≤ d then (t.frm, 3) else Ap1 l size f (i + 1) (d + 1) false)
   else if t.kind = 3 then (if d = 0 then (t.frm, 4) else Ap1 l size f (i + 1) (d - 1) true)
   else if t.kind = 4 then Ap1 l size f (i + 1) d false
   else if a = false then (t.frm, 4) else Ap1 l size f (i + 1) d false
  else if 0 < d then (size, 4) else (0, 0)
def Bp7 (l : List RTk) (size : Int) : Int × Int := Ap1 l size (l.length + 1) 0 0 false
theorem rfirst_c (l : List RTk) (size : Int) (F : Nat → Prop) (A : Option Addr) (c : Nat) (hl : l.length ≤ 100000) (w : World) (hF : ∀ x, F x → x < w.heap.size) (hr : Rd F w 10 A l.length (S5 l)) : Calls P 119 #[.slice A l.length c, .int .i64 size] w (Ret fun u w' => Chg [] w w' ∧ u = endV (Bp7 l size)) := by
 have hC := A8 [] w
 have hR : Ap1 l size (l.length + 1 - 0) 0 0 false = Bp7 l size := rfl
 generalize Bp7 l size = r at *
 refine D3 Tryz.func119 rfl rfl (Qd (B4 rfl (B6 Ax8 rfl) ?_))
 intro b1 w1 hb1 hs1 hx1 hB1
 have hC := hC.s0 hx1
 have hr := hr.u hx1
 refine Qc (Qd (Zc 1 rfl (Qd (Zc 1 rfl (Qa (Qd (Zc 1 rfl (B0 (D7 (σ := Nat × Nat × Bool) (fun (i, d, a) => [(0, .slice A l.length c), (1, .int .i64 size), (4, .pointer (some ⟨b1, 0, none⟩)), (5, .int .i64 d), (6, .bool a), (7, .int .i64 i)]) (fun (i, d, a) wr => Chg [] w wr ∧ Rd F wr 10 A l.length (S5 l) ∧ Blk wr b1 [.int .i64 0, .int .i64 0] 142 ∧ Ap1 l size (l.length + 1 - i) i d a = r ∧ i ≤ l.length ∧ d ≤ i) (fun (i, d, a) wr => 200000 - i) (0, 0, false) (sb rfl) ?_ ?_)))))))))
 ·exact ⟨hC, hr, hB1, hR, by omega, by omega⟩
 rintro ⟨i, d, a⟩ w9 ⟨hC, hr, hB1, hR, hi, hd⟩
 try have hlB1 := hB1.lt
 refine Qa (Qd (Z 2 rfl (Ln Tryz.underlying187 rfl (Zc 1 rfl (A4 rfl (fun h1 => ?_) (fun h1 => ?_))))))
 ·try simp at h1
  have hin : i < l.length := by omega
  rw [show l.length + 1 - i = (l.length + 1 - (i + 1)) + 1 by omega, Ap1, Dr2 hin] at hR
  simp only [] at hR
  obtain ⟨g, off, rfl, hFg, hlt, hcell⟩ := hr.at_ (by omega)
  refine A7 (Qa (B0 (Qd (Z 2 rfl (C7 rfl (B9 Ah5 rfl rfl (by omega) (by omega)) (C7 rfl (E4 (vs := Ao1 (l.getD i default)) J3 rfl (E9 _) (fun j v hj => by rw [Dt1]; exact hcell (i * 10 + j) v (by have hj4 : j < 10 := (Ds8.1 hj).1; rw [L5 l i j hin hj4]; exact hj)) rfl) ?_))))))
  generalize l.getD i default = t at *
  refine B4 rfl (B6 Ce5 rfl) ?_
  intro b2 w2 hb2 hs2 hx2 hB2
  have hr := hr.u hx2
  refine Pe T0 rfl ‹_› rfl rfl ?_
  intro w3 hs3 hx3 hB2
  have hC := hC.step (hx2.j hx3) (by simp <;> omega)
  have hr := hr.q hx3 (by intro b hb hFb; have := hF _ hFb; simp at hb; omega)
  have hB1 := hB1.q (hx2.j hx3) (by simp <;> omega)
  refine Qc (Qd (Fa Q4 rfl (Lb o3 rfl ‹_› (by rfl) ?_)))
  refine Qc (B0 (Qd (Zc 2 rfl (A4 rfl (fun k0 => ?_) (fun k0 => ?_)))))
  ·try simp at k0
   rw [Dr2 k0] at hR
   refine Qb (Zc 1 rfl (Qb (Z 1 rfl (Ad rfl rfl (by omega) (Zc 1 rfl ⟨(i + 1, d, true), sb rfl, ?_, ?_⟩)))))
   exact ⟨hC, hr, hB1, hR, by omega, by omega⟩
   show 200000 - (i + 1) < 200000 - i
   omega
  ·try simp at k0
   rw [Dr1 k0] at hR
   refine Qa (Qd (Zc 2 rfl (A4 rfl (fun k1 => ?_) (fun k1 => ?_))))
   ·refine A7 (E1 (G9 rfl k1) ?_)
    rw [cmpB_eql] at k1
    rw [Dr2 (.inl k1)] at hR
    refine Qa (Qd (Zc 2 rfl (A4 rfl (fun q1 => ?_) (fun q1 => ?_))))
    ·try simp at q1
     rw [Dr2 (by omega)] at hR
     refine Qd (Fa An3 rfl (Lb o3 rfl ‹_› (by rfl) ?_))
     refine C7 rfl (A9 Ax8 Bx9 rfl (by rfl)) ?_
     refine Pe Az9 rfl ‹_› rfl rfl ?_
     intro w4 hs4 hx4 hB1
     have hC := hC.step hx4 (by simp; omega)
     refine Qc (A6 (C8 rfl rfl (A5 Bi4 ‹_› rfl rfl) ?_))
     exact ⟨hC, by rw [← hR]; rfl⟩
    ·try simp at q1
     rw [Dr1 (by omega)] at hR
     refine A7 (Qd (Z 1 rfl (Ad rfl rfl (by omega) (Zc 1 rfl (Qb (Zc 1 rfl (Qb (Z 1 rfl (Ad rfl rfl (by omega) (Zc 1 rfl ⟨(i + 1, d + 1, false), sb rfl, ?_, ?_⟩))))))))))
     exact ⟨hC, hr, hB1, hR, by omega, by omega⟩
     show 200000 - (i + 1) < 200000 - i
     omega
   ·rw [cmpB_eqlF] at k1
    refine Qb (Zc 2 rfl (A4 rfl (fun k2 => ?_) (fun k2 => ?_)))
    ·rw [cmpB_eql] at k2
     rw [Dr2 (.inr k2)] at hR
     refine Qa (Qd (Zc 2 rfl (A4 rfl (fun q1 => ?_) (fun q1 => ?_))))
     ·try simp at q1
      rw [Dr2 (by omega)] at hR
      refine Qd (Fa An3 rfl (Lb o3 rfl ‹_› (by rfl) ?_))
      refine C7 rfl (A9 Ax8 Bx9 rfl (by rfl)) ?_
      refine Pe Az9 rfl ‹_› rfl rfl ?_
      intro w5 hs5 hx5 hB1
      have hC := hC.step hx5 (by simp; omega)
      refine Qc (A6 (C8 rfl rfl (A5 Bi4 ‹_› rfl rfl) ?_))
      exact ⟨hC, by rw [← hR]; rfl⟩
     ·try simp at q1
      rw [Dr1 (by omega)] at hR
      refine A7 (Qd (Z 1 rfl (Ad rfl rfl (by omega) (Zc 1 rfl (Qb (Zc 1 rfl (Qb (Z 1 rfl (Ad rfl rfl (by omega) (Zc 1 rfl ⟨(i + 1, d + 1, false), sb rfl, ?_, ?_⟩))))))))))
      exact ⟨hC, hr, hB1, hR, by omega, by omega⟩
      show 200000 - (i + 1) < 200000 - i
      omega
    ·rw [cmpB_eqlF] at k2
     rw [Dr1 (Dz6.2 ⟨k1, k2⟩)] at hR
     refine Qd (Zc 2 rfl (A4 rfl (fun k3 => ?_) (fun k3 => ?_)))
     ·try simp at k3
      rw [Dr2 k3] at hR
      refine Qa (Qd (Zc 2 rfl (A4 rfl (fun q1 => ?_) (fun q1 => ?_))))
      ·try simp at q1
       have q1' : d = 0 := by omega
       rw [Dr2 q1'] at hR
       refine Qd (Fa An3 rfl (Lb o3 rfl ‹_› (by rfl) ?_))
       refine C7 rfl (A9 Ax8 Bx9 rfl (by rfl)) ?_
       refine Pe Az9 rfl ‹_› rfl rfl ?_
       intro w6 hs6 hx6 hB1
       have hC := hC.step hx6 (by simp; omega)
       refine Qc (A6 (C8 rfl rfl (A5 Bi4 ‹_› rfl rfl) ?_))
       exact ⟨hC, by rw [← hR]; rfl⟩
      ·try simp at q1
       have q1' : ¬ d = 0 := by omega
       rw [Dr1 q1'] at hR
       refine A7 (Qd (Z 1 rfl (Su rfl rfl (by omega) (Zc 1 rfl (Qb (Zc 1 rfl (Qb (Z 1 rfl (Ad rfl rfl (by omega) (Zc 1 rfl ⟨(i + 1, d - 1, true), ⟨rfl, rfl, rfl, (F9 rfl (by omega)), rfl, rfl, trivial⟩, ?_, ?_⟩))))))))))
       exact ⟨hC, hr, hB1, hR, by omega, by omega⟩
       show 200000 - (i + 1) < 200000 - i
       omega
     ·try simp at k3
      rw [Dr1 k3] at hR
      refine Qd (Zc 2 rfl (A4 rfl (fun k4 => ?_) (fun k4 => ?_)))
      ·try simp at k4
       rw [Dr2 k4] at hR
       refine Qb (Zc 1 rfl (Qb (Z 1 rfl (Ad rfl rfl (by omega) (Zc 1 rfl ⟨(i + 1, d, false), sb rfl, ?_, ?_⟩)))))
       exact ⟨hC, hr, hB1, hR, by omega, by omega⟩
       show 200000 - (i + 1) < 200000 - i
       omega
      ·try simp at k4
       rw [Dr1 k4] at hR
       refine Qa (Qd (Zc 2 rfl (A4 rfl (fun k5 => ?_) (fun k5 => ?_))))
       ·have k5' : a = false := by simpa using k5
        rw [Dr2 k5'] at hR
        refine Qd (Fa An3 rfl (Lb o3 rfl ‹_› (by rfl) ?_))
        refine C7 rfl (A9 Ax8 Bx9 rfl (by rfl)) ?_
        refine Pe Az9 rfl ‹_› rfl rfl ?_
        intro w7 hs7 hx7 hB1
        have hC := hC.step hx7 (by simp; omega)
        refine Qc (A6 (C8 rfl rfl (A5 Bi4 ‹_› rfl rfl) ?_))
        exact ⟨hC, by rw [← hR]; rfl⟩
       ·have k5' : ¬ a = false := by simpa using k5
        rw [Dr1 k5'] at hR
        refine A7 (Qb (Zc 1 rfl (Qb (Z 1 rfl (Ad rfl rfl (by omega) (Zc 1 rfl ⟨(i + 1, d, false), sb rfl, ?_, ?_⟩))))))
        exact ⟨hC, hr, hB1, hR, by omega, by omega⟩
        show 200000 - (i + 1) < 200000 - i
        omega
 ·try simp at h1
  have hX : Ap1 l size (l.length + 1 - i) i d a = if 0 < d then (size, 4) else (0, 0) := by
   rw [show l.length + 1 - i = 0 + 1 by omega, Ap1, Dr1 (by omega)]
  rw [hX] at hR
  refine Xb (Qa (Qd (Zc 2 rfl (A4 rfl (fun z1 => ?_) (fun z1 => ?_)))))
  ·try simp at z1
   rw [Dr2 (by omega)] at hR
   refine Qd (Z 1 rfl (C7 rfl (A9 Ax8 Bx9 rfl (by rfl)) ?_))
   refine Pe Az9 rfl ‹_› rfl rfl ?_
   intro w8 hs8 hx8 hB1
   have hC := hC.step hx8 (by simp; omega)
   refine Qc (A6 (C8 rfl rfl (A5 Bi4 ‹_› rfl rfl) ?_))
   exact ⟨hC, by rw [← hR]; rfl⟩
  ·try simp at z1
   rw [Dr1 (by omega)] at hR
   refine A7 (Qd (C7 rfl (A9 Ax8 Bx9 rfl (by rfl)) ?_))
   refine Pe Az9 rfl ‹_› rfl rfl ?_
   intro w9 hs9 hx9 hB1
   have hC := hC.step hx9 (by simp; omega)
   refine Qc (A6 (C8 rfl rfl (A5 Bi4 ‹_› rfl rfl) ?_))
   exact ⟨hC, by rw [← hR]; rfl⟩
inductive R8 where
 | node (kind : Int) (set : Nat) (lz : Bool) (l : List R8)
instance : Inhabited R8 := ⟨.node 0 0 false []⟩
def n8C (k : Int) (s : Nat) (lz : Bool) (A : Option Addr) (n c : Nat) : List Value := [.int .i64 k] ++ C1 s ++ [.bool lz, .slice A n c]
mutual
def N8 (F : Nat → Prop) (w : World) : R8 → List Value → Prop
 | .node k s lz l, cs => ∃ A c css, cs = n8C k s lz A l.length c ∧ Rd F w 7 A l.length (List.flatten css) ∧ N8r F w l css
def N8r (F : Nat → Prop) (w : World) : List R8 → List (List Value) → Prop
 | [], css => css = []
 | t :: r, css => ∃ cs rest, css = cs :: rest ∧ N8 F w t cs ∧ N8r F w r rest
end
mutual
theorem Dp9 {F : Nat → Prop} {w w' : World} {S : List Nat} (c : Chg S w w') (hS : ∀ b ∈ S, ¬ F b) : ∀ (t : R8) (cs : List Value), N8 F w t cs → N8 F w' t cs
 | .node k s lz l, cs, h => by
  rw [N8] at h ⊢
  obtain ⟨A, cc, css, h1, h2, h3⟩ := h
  exact ⟨A, cc, css, h1, h2.q c hS, Bu7 c hS l css h3⟩
theorem Bu7 {F : Nat → Prop} {w w' : World} {S : List Nat} (c : Chg S w w') (hS : ∀ b ∈ S, ¬ F b) : ∀ (l : List R8) (css : List (List Value)), N8r F w l css → N8r F w' l css
 | [], css, h => by rw [N8r] at h ⊢; exact h
 | t :: r, css, h => by
  rw [N8r] at h ⊢
  obtain ⟨cs, rest, h1, h2, h3⟩ := h
  exact ⟨cs, rest, h1, Dp9 c hS t cs h2, Bu7 c hS r rest h3⟩
end
mutual
theorem Ct7 {F F' : Nat → Prop} {w : World} (hF : ∀ b, F b → b < w.heap.size → F' b) : ∀ (t : R8) (cs : List Value), N8 F w t cs → N8 F' w t cs
 | .node k s lz l, cs, h => by
  rw [N8] at h ⊢
  obtain ⟨A, cc, css, h1, h2, h3⟩ := h
  exact ⟨A, cc, css, h1, h2.mono hF, Bg6 hF l css h3⟩
theorem Bg6 {F F' : Nat → Prop} {w : World} (hF : ∀ b, F b → b < w.heap.size → F' b) : ∀ (l : List R8) (css : List (List Value)), N8r F w l css → N8r F' w l css
 | [], css, h => by rw [N8r] at h ⊢; exact h
 | t :: r, css, h => by
  rw [N8r] at h ⊢
  obtain ⟨cs, rest, h1, h2, h3⟩ := h
  exact ⟨cs, rest, h1, Ct7 hF t cs h2, Bg6 hF r rest h3⟩
end
theorem N8r.get {F : Nat → Prop} {w : World} : ∀ {l : List R8} {css : List (List Value)}, N8r F w l css → ∀ k, k < l.length → N8 F w (l.getD k default) (css.getD k [])
 | [], css, h, k, hk => by simp at hk
 | t :: r, css, h, 0, hk => by
  rw [N8r] at h
  obtain ⟨cs, rest, rfl, h2, _⟩ := h
  simpa using h2
 | t :: r, css, h, k + 1, hk => by
  rw [N8r] at h
  obtain ⟨cs, rest, rfl, _, h3⟩ := h
  simpa using N8r.get h3 k (by simpa using hk)
theorem N8.len {F : Nat → Prop} {w : World} : ∀ {t : R8} {cs : List Value}, N8 F w t cs → cs.length = 7
 | .node k s lz l, cs, h => by
  rw [N8] at h
  obtain ⟨A, c, css, rfl, _⟩ := h
  rfl
theorem N8.q {F : Nat → Prop} {w w' : World} {t : R8} {cs : List Value} {S : List Nat} (h : N8 F w t cs) (c : Chg S w w') (hS : ∀ b ∈ S, ¬ F b) : N8 F w' t cs := Dp9 c hS t cs h
theorem N8r.q {F : Nat → Prop} {w w' : World} {t : List R8} {cs : List (List Value)} {S : List Nat} (h : N8r F w t cs) (c : Chg S w w') (hS : ∀ b ∈ S, ¬ F b) : N8r F w' t cs := Bu7 c hS t cs h
theorem N8.u {F : Nat → Prop} {w w' : World} {t : R8} {cs : List Value} (h : N8 F w t cs) (c : Chg [] w w') : N8 F w' t cs := h.q c (fun b hb => by cases hb)
theorem N8r.u {F : Nat → Prop} {w w' : World} {t : List R8} {cs : List (List Value)} (h : N8r F w t cs) (c : Chg [] w w') : N8r F w' t cs := h.q c (fun b hb => by cases hb)
theorem N8.mono {F F' : Nat → Prop} {w : World} {t : R8} {cs : List Value} (h : N8 F w t cs) (hF : ∀ b, F b → b < w.heap.size → F' b) : N8 F' w t cs := Ct7 hF t cs h
theorem N8r.mono {F F' : Nat → Prop} {w : World} {t : List R8} {cs : List (List Value)} (h : N8r F w t cs) (hF : ∀ b, F b → b < w.heap.size → F' b) : N8r F' w t cs := Bg6 hF t cs h
def Ac6 (k : Int) (a b : R8) : R8 := .node k 0 false [a, b]
theorem Ah8 (k : Int) (a b : R8) (ca cb : List Value) (F : Nat → Prop) (w : World) (hF : ∀ x, F x → x < w.heap.size) (hA : N8 F w a ca) (hBb : N8 F w b cb) : Calls P 121 #[.int .i64 k, .agg ca.toArray, .agg cb.toArray] w (Ret fun u w' => Chg [] w w' ∧ ∃ cs, u = .agg cs.toArray ∧ N8 (fun x => F x ∨ (w.heap.size ≤ x ∧ x < w'.heap.size)) w' (Ac6 k a b) cs) := by
 have hC := A8 [] w
 have hla := hA.len
 have hlb := hBb.len
 obtain ⟨a0, a1, a2, a3, a4, a5, a6, rfl⟩ : ∃ a0 a1 a2 a3 a4 a5 a6, ca = [a0, a1, a2, a3, a4, a5, a6] := by
  match ca, hla with
  | [a0, a1, a2, a3, a4, a5, a6], _ => exact ⟨a0, a1, a2, a3, a4, a5, a6, rfl⟩
 obtain ⟨d0, d1, d2, d3, d4, d5, d6, rfl⟩ : ∃ a0 a1 a2 a3 a4 a5 a6, cb = [a0, a1, a2, a3, a4, a5, a6] := by
  match cb, hlb with
  | [a0, a1, a2, a3, a4, a5, a6], _ => exact ⟨a0, a1, a2, a3, a4, a5, a6, rfl⟩
 refine D3 Tryz.func121 rfl rfl (Qd (B4 rfl (E0 rfl rfl) ?_))
 intro b1 w1 hb1 hs1 hx1 hB1
 refine B4 rfl (E0 rfl rfl) ?_
 intro b2 w2 hb2 hs2 hx2 hB2
 refine B4 rfl (B6 Ak8 rfl) ?_
 intro b3 w3 hb3 hs3 hx3 hB3
 have hB1 := hB1.u (hx2.s0 hx3)
 have hB2 := hB2.u hx3
 refine Qc (Qd (Z 1 rfl (La K4 rfl ‹_› rfl rfl ?_)))
 refine La K4 rfl ‹_› rfl rfl ?_
 refine B4 rfl (B5 Ah3 Tryz.underlying71 Ak8 rfl rfl rfl (by rfl)) ?_
 intro b4 w4 hb4 hs4 hx4 hB4
 have hB3 := hB3.u hx4
 refine C7 rfl (A9 Ak8 Co8 rfl (by rfl)) ?_
 refine Pe Ah1 rfl ‹_› rfl rfl ?_
 intro w5 hs5 hx5 hB3
 have hC := hC.step ((((hx1.j hx2).j hx3).j hx4).j hx5) (by simp <;> omega)
 have hB4 := hB4.q hx5 (by simp; omega)
 refine Qc (A6 (C8 rfl rfl (A5 K4 ‹_› rfl rfl) ?_))
 refine ⟨hC, n8C k 0 false (some ⟨b4, 0, none⟩) 2 2, by unfold n8C; rw [C3]; rfl, ?_⟩
 unfold Ac6
 rw [N8]
 refine ⟨some ⟨b4, 0, none⟩, 2, [[a0, a1, a2, a3, a4, a5, a6], [d0, d1, d2, d3, d4, d5, d6]], rfl, Blk.rd ‹_› rfl (.inr ⟨by omega, by have := hB4.lt; omega⟩), ?_⟩
 rw [N8r]
 refine ⟨_, _, rfl, (hA.u hC).mono (fun x h _ => .inl h), ?_⟩
 rw [N8r]
 refine ⟨_, _, rfl, (hBb.u hC).mono (fun x h _ => .inl h), ?_⟩
 rw [N8r]
inductive R6 where
 | node (kind : Int) (set : Nat) (mn mx : Int) (lz : Bool) (l : List R6) (frm till : Int)
instance : Inhabited R6 := ⟨.node 0 0 0 0 false [] 0 0⟩
def n6C (k : Int) (s : Nat) (mn mx : Int) (lz : Bool) (A : Option Addr) (n c : Nat) (a b : Int) : List Value := [.int .i64 k] ++ C1 s ++ [.int .i64 mn, .int .i64 mx, .bool lz, .slice A n c, .int .i64 a, .int .i64 b]
mutual
def N6 (F : Nat → Prop) (w : World) : R6 → List Value → Prop
 | .node k s mn mx lz l fr tl, cs => ∃ A c css, cs = n6C k s mn mx lz A l.length c fr tl ∧ Rd F w 11 A l.length (List.flatten css) ∧ N6r F w l css
def N6r (F : Nat → Prop) (w : World) : List R6 → List (List Value) → Prop
 | [], css => css = []
 | t :: r, css => ∃ cs rest, css = cs :: rest ∧ N6 F w t cs ∧ N6r F w r rest
end
mutual
theorem Dq0 {F : Nat → Prop} {w w' : World} {S : List Nat} (c : Chg S w w') (hS : ∀ b ∈ S, ¬ F b) : ∀ (t : R6) (cs : List Value), N6 F w t cs → N6 F w' t cs
 | .node k s mn mx lz l fr tl, cs, h => by
  rw [N6] at h ⊢
  obtain ⟨A, cc, css, h1, h2, h3⟩ := h
  exact ⟨A, cc, css, h1, h2.q c hS, Bu8 c hS l css h3⟩
theorem Bu8 {F : Nat → Prop} {w w' : World} {S : List Nat} (c : Chg S w w') (hS : ∀ b ∈ S, ¬ F b) : ∀ (l : List R6) (css : List (List Value)), N6r F w l css → N6r F w' l css
 | [], css, h => by rw [N6r] at h ⊢; exact h
 | t :: r, css, h => by
  rw [N6r] at h ⊢
  obtain ⟨cs, rest, h1, h2, h3⟩ := h
  exact ⟨cs, rest, h1, Dq0 c hS t cs h2, Bu8 c hS r rest h3⟩
end
mutual
theorem Ct8 {F F' : Nat → Prop} {w : World} (hF : ∀ b, F b → b < w.heap.size → F' b) : ∀ (t : R6) (cs : List Value), N6 F w t cs → N6 F' w t cs
 | .node k s mn mx lz l fr tl, cs, h => by
  rw [N6] at h ⊢
  obtain ⟨A, cc, css, h1, h2, h3⟩ := h
  exact ⟨A, cc, css, h1, h2.mono hF, Bg7 hF l css h3⟩
theorem Bg7 {F F' : Nat → Prop} {w : World} (hF : ∀ b, F b → b < w.heap.size → F' b) : ∀ (l : List R6) (css : List (List Value)), N6r F w l css → N6r F' w l css
 | [], css, h => by rw [N6r] at h ⊢; exact h
 | t :: r, css, h => by
  rw [N6r] at h ⊢
  obtain ⟨cs, rest, h1, h2, h3⟩ := h
  exact ⟨cs, rest, h1, Ct8 hF t cs h2, Bg7 hF r rest h3⟩
end
theorem N6r.get {F : Nat → Prop} {w : World} : ∀ {l : List R6} {css : List (List Value)}, N6r F w l css → ∀ k, k < l.length → N6 F w (l.getD k default) (css.getD k [])
 | [], css, h, k, hk => by simp at hk
 | t :: r, css, h, 0, hk => by
  rw [N6r] at h
  obtain ⟨cs, rest, rfl, h2, _⟩ := h
  simpa using h2
 | t :: r, css, h, k + 1, hk => by
  rw [N6r] at h
  obtain ⟨cs, rest, rfl, _, h3⟩ := h
  simpa using N6r.get h3 k (by simpa using hk)
theorem N6.len {F : Nat → Prop} {w : World} : ∀ {t : R6} {cs : List Value}, N6 F w t cs → cs.length = 11
 | .node k s mn mx lz l fr tl, cs, h => by
  rw [N6] at h
  obtain ⟨A, c, css, rfl, _⟩ := h
  rfl
theorem N6.q {F : Nat → Prop} {w w' : World} {t : R6} {cs : List Value} {S : List Nat} (h : N6 F w t cs) (c : Chg S w w') (hS : ∀ b ∈ S, ¬ F b) : N6 F w' t cs := Dq0 c hS t cs h
theorem N6r.q {F : Nat → Prop} {w w' : World} {t : List R6} {cs : List (List Value)} {S : List Nat} (h : N6r F w t cs) (c : Chg S w w') (hS : ∀ b ∈ S, ¬ F b) : N6r F w' t cs := Bu8 c hS t cs h
theorem N6.u {F : Nat → Prop} {w w' : World} {t : R6} {cs : List Value} (h : N6 F w t cs) (c : Chg [] w w') : N6 F w' t cs := h.q c (fun b hb => by cases hb)
theorem N6r.u {F : Nat → Prop} {w w' : World} {t : List R6} {cs : List (List Value)} (h : N6r F w t cs) (c : Chg [] w w') : N6r F w' t cs := h.q c (fun b hb => by cases hb)
theorem N6.mono {F F' : Nat → Prop} {w : World} {t : R6} {cs : List Value} (h : N6 F w t cs) (hF : ∀ b, F b → b < w.heap.size → F' b) : N6 F' w t cs := Ct8 hF t cs h
theorem N6r.mono {F F' : Nat → Prop} {w : World} {t : List R6} {cs : List (List Value)} (h : N6r F w t cs) (hF : ∀ b, F b → b < w.heap.size → F' b) : N6r F' w t cs := Bg7 hF t cs h
def R6.frm : R6 → Int
 | .node _ _ _ _ _ _ a _ => a
def R6.till : R6 → Int
 | .node _ _ _ _ _ _ _ b => b
def rkd (l : List RTk) (i : Nat) : Int := (l.getD i default).kind
def Cq5 (l : List RTk) (alt : Nat → Nat → R6) (i : Nat) : R6 × Nat :=
 if rkd l i = 0 then (.node 1 (l.getD i default).set 0 0 false [] (l.getD i default).frm (l.getD i default).till, i + 1)
 else (.node (1 + rkd l i) 0 0 0 false [alt (i + 1) (Av8 l (i + 1)).toNat] (l.getD i default).frm (l.getD (Av8 l (i + 1)).toNat default).till, (Av8 l (i + 1)).toNat + 1)
def cntN (q : RTk) (n : R6) : R6 := .node 6 0 q.mn q.mx q.lz [n] n.frm q.till
def Ay1 (l : List RTk) (to : Nat) (x : R6 × Nat) : R6 × Nat :=
 if x.2 < to ∧ rkd l x.2 = 5 then (cntN (l.getD x.2 default) x.1, x.2 + 1) else x
def Ay2 (l : List RTk) (alt : Nat → Nat → R6) (to : Nat) : Nat → Nat → List R6 → List R6
 | 0, _, o => o
 | f + 1, i, o => if i < to then Ay2 l alt to f (Ay1 l to (Cq5 l alt i)).2 (o ++ [(Ay1 l to (Cq5 l alt i)).1]) else o
def Bz7 (kind : Int) (o : List R6) : R6 := if o.length = 1 then o.getD 0 default else .node kind 0 0 0 false o (o.getD 0 default).frm (o.getD (o.length - 1) default).till
def catE (l : List RTk) (size : Int) (frm : Nat) (o : List R6) : R6 := if o.length = 0 then .node 0 0 0 0 false [] (Bg2 l frm size) (Bg2 l frm size) else Bz7 4 o
def dpR (l : List RTk) (i to : Nat) (d : Int) : Int := if i < to then (if rkd l i = 1 ∨ rkd l i = 2 then d + 1 else if rkd l i = 3 then d - 1 else d) else d
def At2 (l : List RTk) (cat : Nat → Nat → R6) (to : Nat) : Nat → Nat → Nat → Int → List R6 → List R6
 | 0, _, _, _, o => o
 | f + 1, i, at_, d, o =>
  if i ≤ to then
   if i = to ∨ (rkd l i = 4 ∧ dpR l i to d = 0) then At2 l cat to f (i + 1) (i + 1) (dpR l i to d) (o ++ [cat at_ i])
   else At2 l cat to f (i + 1) at_ (dpR l i to d) o
  else o
def Aw0 (l : List RTk) (size : Int) : Nat → Bool → Nat → Nat → R6
 | 0, _, _, _ => default
 | f + 1, true, a, b => Bz7 5 (At2 l (fun x y => Aw0 l size f false x y) b (b + 2 - a) a a 0 [])
 | f + 1, false, a, b => catE l size a (Ay2 l (fun x y => Aw0 l size f true x y) b (b + 1 - a) a [])
def Stp (k : Int) (d : Nat) (a : Bool) (d' : Nat) (a' : Bool) : Prop :=
 (k = 0 ∧ d' = d ∧ a' = true) ∨ ((k = 1 ∨ k = 2) ∧ d' = d + 1 ∧ a' = false) ∨ (k = 3 ∧ d = d' + 1 ∧ a' = true) ∨ (k = 4 ∧ d' = d ∧ a' = false) ∨ (k = 5 ∧ a = true ∧ d' = d ∧ a' = false)
structure Shp (l : List RTk) (d : Nat → Nat) (a : Nat → Bool) : Prop where
 st : ∀ i, i < l.length → Stp (rkd l i) (d i) (a i) (d (i + 1)) (a (i + 1))
 d0 : d 0 = 0
 a0 : a 0 = false
 dn : d l.length = 0
structure Rng (l : List RTk) (d : Nat → Nat) (a : Nat → Bool) (D x y : Nat) : Prop where
 le : x ≤ y
 len : y ≤ l.length
 dx : d x = D
 dy : d y = D
 ax : a x = false
 ge : ∀ i, x ≤ i → i ≤ y → D ≤ d i
theorem Ak6 {l : List RTk} {d : Nat → Nat} {a : Nat → Bool} (h : Shp l d a) {D x y i0 : Nat} (hy : y ≤ l.length) (hdy : d y = D) : ∀ (f j e : Nat), f = l.length + 1 - j → i0 ≤ j → j ≤ y → d j = D + 1 + e → (∀ m, i0 ≤ m → m ≤ j → D + 1 ≤ d m) → ∃ k : Nat, Ai0 l f j e = (k : Int) ∧ i0 ≤ k ∧ k < y ∧ rkd l k = 3 ∧ d k = D + 1 ∧ ∀ m, i0 ≤ m → m ≤ k → D + 1 ≤ d m
 | 0, j, e, hf, h0, hj, hd, hm => by omega
 | f + 1, j, e, hf, h0, hj, hd, hm => by
  have hjy : j < y := by
   rcases Dy5 j y with h1 | h1
   ·exact h1
   ·have : j = y := by omega
    subst this; omega
  rw [Ai0, Dr2 (by omega)]
  have hs := h.st j (by omega)
  have hk : (l.getD j default).kind = rkd l j := rfl
  rw [hk]
  have ext : D + 1 ≤ d (j + 1) → ∀ m, i0 ≤ m → m ≤ j + 1 → D + 1 ≤ d m := fun h1 m ha hb => by
   by_cases hc : m ≤ j
   ·exact hm m ha hc
   ·have : m = j + 1 := by omega
    rw [this]; exact h1
  rcases hs with ⟨h1, h2, _⟩ | ⟨h1, h2, _⟩ | ⟨h1, h2, _⟩ | ⟨h1, h2, _⟩ | ⟨h1, _, h2, _⟩
  ·rw [Dr1 (by omega), Dr1 (by omega)]
   exact Ak6 h (x := x) hy hdy f (j + 1) e (by omega) (by omega) (by omega) (by omega) (ext (by omega))
  ·rw [Dr2 h1]
   exact Ak6 h (x := x) hy hdy f (j + 1) (e + 1) (by omega) (by omega) (by omega) (by omega) (ext (by omega))
  ·rw [Dr1 (by omega), Dr2 h1]
   by_cases he : e = 0
   ·rw [Dr2 he]
    exact ⟨j, rfl, h0, hjy, h1, by omega, hm⟩
   ·rw [Dr1 he]
    exact Ak6 h (x := x) hy hdy f (j + 1) (e - 1) (by omega) (by omega) (by omega) (by omega) (ext (by omega))
  ·rw [Dr1 (by omega), Dr1 (by omega)]
   exact Ak6 h (x := x) hy hdy f (j + 1) e (by omega) (by omega) (by omega) (by omega) (ext (by omega))
  ·rw [Dr1 (by omega), Dr1 (by omega)]
   exact Ak6 h (x := x) hy hdy f (j + 1) e (by omega) (by omega) (by omega) (by omega) (ext (by omega))
theorem Rng.group {l : List RTk} {d : Nat → Nat} {a : Nat → Bool} {D x y i : Nat} (h : Shp l d a) (r : Rng l d a D x y) (hx : x ≤ i) (hy : i < y) (hd : d i = D) (hk : rkd l i = 1 ∨ rkd l i = 2) : ∃ k : Nat, Av8 l (i + 1) = (k : Int) ∧ k < y ∧ rkd l k = 3 ∧ d (k + 1) = D ∧ a (k + 1) = true ∧ Rng l d a (D + 1) (i + 1) k := by
 have hl := r.len
 have hs := h.st i (by omega)
 have h1 : d (i + 1) = D + 1 ∧ a (i + 1) = false := by
  rcases hs with ⟨h1, _⟩ | ⟨_, h2, h3⟩ | ⟨h1, _⟩ | ⟨h1, _⟩ | ⟨h1, _⟩
  ·omega
  ·exact ⟨by omega, h3⟩
  ·omega
  ·omega
  ·omega
 obtain ⟨k, k1, k2, k3, k4, k5, k6⟩ := Ak6 h (x := x) (i0 := i + 1) r.len r.dy (l.length + 1 - (i + 1)) (i + 1) 0 rfl (Ds3 _) (by omega) (by omega) (fun m ha hb => by
  have : m = i + 1 := by omega
  rw [this]; omega)
 have hs := h.st k (by omega)
 have h2 : d (k + 1) = D ∧ a (k + 1) = true := by
  rcases hs with ⟨h1, _⟩ | ⟨h1, _⟩ | ⟨h1, h2, h3⟩ | ⟨h1, _⟩ | ⟨h1, _⟩
  ·omega
  ·omega
  ·exact ⟨by omega, h3⟩
  ·omega
  ·omega
 exact ⟨k, k1, k3, k4, h2.1, h2.2, ⟨k2, by omega, h1.1, k5, h1.2, k6⟩⟩
structure AtI (l : List RTk) (d : Nat → Nat) (a : Nat → Bool) (D x y i : Nat) : Prop where
 lo : x ≤ i
 hi : i ≤ y
 di : d i = D
 ok : a i = false ∨ (i < y → rkd l i ≠ 5)
def Da9 (l : List RTk) (d : Nat → Nat) (D x y : Nat) : Prop := ∀ i, x ≤ i → i < y → d i = D → rkd l i ≠ 4
theorem AtI.kind {l : List RTk} {d : Nat → Nat} {a : Nat → Bool} {D x y i : Nat} (h : Shp l d a) (r : Rng l d a D x y) (nb : Da9 l d D x y) (t : AtI l d a D x y i) (hi : i < y) : (rkd l i = 0 ∧ d (i + 1) = D ∧ a (i + 1) = true) ∨ rkd l i = 1 ∨ rkd l i = 2 := by
 have hl := r.len
 have hs := h.st i (by omega)
 have hb := nb i t.lo hi t.di
 have hd := t.di
 rcases hs with ⟨h1, h2, h3⟩ | ⟨h1, h2, _⟩ | ⟨h1, h2, _⟩ | ⟨h1, h2, _⟩ | ⟨h1, h2, _⟩
 ·exact .inl ⟨h1, by omega, h3⟩
 ·exact .inr h1
 ·have := r.ge (i + 1) (by have := t.lo; omega) (by omega)
  omega
 ·exact absurd h1 hb
 ·rcases t.ok with h4 | h4
  ·rw [h4] at h2; cases h2
  ·exact absurd h1 (h4 hi)
theorem AtI.more {l : List RTk} {d : Nat → Nat} {a : Nat → Bool} {D x y j : Nat} (h : Shp l d a) (r : Rng l d a D x y) (h1 : x ≤ j) (h3 : j < y) (h4 : d j = D) (h5 : rkd l j = 5) : AtI l d a D x y (j + 1) := by
 have hl := r.len
 rcases h.st j (by omega) with ⟨k1, _⟩ | ⟨k1, _⟩ | ⟨k1, _⟩ | ⟨k1, _⟩ | ⟨_, _, k3, k4⟩
 ·omega
 ·omega
 ·omega
 ·omega
 ·exact ⟨by omega, by omega, by omega, .inl k4⟩
structure AtB (l : List RTk) (d : Nat → Nat) (a : Nat → Bool) (D x y i at_ : Nat) : Prop where
 lo : x ≤ at_
 mid : at_ ≤ i
 hi : i ≤ y
 dat : d at_ = D
 aat : a at_ = false
 nb : Da9 l d D at_ i
theorem AtB.rng {l : List RTk} {d : Nat → Nat} {a : Nat → Bool} {D x y i at_ : Nat} (r : Rng l d a D x y) (t : AtB l d a D x y i at_) (hd : d i = D) : Rng l d a D at_ i :=
 ⟨t.mid, Du7 t.hi r.len, t.dat, hd, t.aat, fun m h1 h2 => r.ge m (Du7 t.lo h1) (Du7 h2 t.hi)⟩
theorem AtB.deep {l : List RTk} {d : Nat → Nat} {a : Nat → Bool} {D x y i at_ : Nat} {e : Int} (h : Shp l d a) (r : Rng l d a D x y) (t : AtB l d a D x y i at_) (hi : i < y) (he : e = (d i : Int) - D) : dpR l i y e = (d (i + 1) : Int) - D ∧ (rkd l i = 4 → d (i + 1) = d i ∧ a (i + 1) = false) := by
 have hl := r.len
 unfold dpR
 rw [Dr2 hi]
 rcases h.st i (by omega) with ⟨k1, k2, k3⟩ | ⟨k1, k2, k3⟩ | ⟨k1, k2, k3⟩ | ⟨k1, k2, k3⟩ | ⟨k1, _, k2, k3⟩
 ·rw [Dr1 (by omega), Dr1 (by omega)]; exact ⟨by omega, fun h => by omega⟩
 ·rw [Dr2 k1]; exact ⟨by omega, fun h => by omega⟩
 ·rw [Dr1 (by omega), Dr2 k1]; exact ⟨by omega, fun h => by omega⟩
 ·rw [Dr1 (by omega), Dr1 (by omega)]; exact ⟨by omega, fun h => ⟨k2, k3⟩⟩
 ·rw [Dr1 (by omega), Dr1 (by omega)]; exact ⟨by omega, fun h => by omega⟩
theorem AtB.next {l : List RTk} {d : Nat → Nat} {a : Nat → Bool} {D x y i at_ : Nat} (t : AtB l d a D x y i at_) (hi : i < y) (hn : ¬ (rkd l i = 4 ∧ d i = D)) : AtB l d a D x y (i + 1) at_ :=
 ⟨t.lo, by have := t.mid; omega, by omega, t.dat, t.aat, fun m h1 h2 h3 => by
  by_cases hm : m < i
  ·exact t.nb m h1 hm h3
  ·have : m = i := by omega
   subst this
   exact fun h => hn ⟨h, h3⟩⟩
theorem AtB.cut {l : List RTk} {d : Nat → Nat} {a : Nat → Bool} {D x y i at_ : Nat} (t : AtB l d a D x y i at_) (hi : i < y) (hd : d (i + 1) = D) (ha : a (i + 1) = false) : AtB l d a D x y (i + 1) (i + 1) :=
 ⟨by have := t.lo; have := t.mid; omega, Ds3 _, by omega, hd, ha, fun m h1 h2 => by omega⟩
def stD (l : List RTk) : Nat → Nat × Bool
 | 0 => (0, false)
 | i + 1 => if rkd l i = 0 then ((stD l i).1, true) else if rkd l i = 1 ∨ rkd l i = 2 then ((stD l i).1 + 1, false) else if rkd l i = 3 then ((stD l i).1 - 1, true) else ((stD l i).1, false)
theorem Bb1 {l : List RTk} {size : Int} (hk : ∀ i, i < l.length → 0 ≤ rkd l i ∧ rkd l i ≤ 5) : ∀ (f i : Nat), f = l.length + 1 - i → i ≤ l.length → (Ap1 l size f i (stD l i).1 (stD l i).2).2 = 0 → (∀ j, i ≤ j → j < l.length → Stp (rkd l j) (stD l j).1 (stD l j).2 (stD l (j + 1)).1 (stD l (j + 1)).2) ∧ (stD l l.length).1 = 0
 | 0, i, hf, hi, h => by omega
 | f + 1, i, hf, hi, h => by
  rw [Ap1] at h
  by_cases hin : i < l.length
  ·rw [Dr2 hin] at h
   have hke : (l.getD i default).kind = rkd l i := rfl
   simp only [hke] at h
   have hr := hk i hin
   have go : Stp (rkd l i) (stD l i).1 (stD l i).2 (stD l (i + 1)).1 (stD l (i + 1)).2 → (Ap1 l size f (i + 1) (stD l (i + 1)).1 (stD l (i + 1)).2).2 = 0 → (∀ j, i ≤ j → j < l.length → Stp (rkd l j) (stD l j).1 (stD l j).2 (stD l (j + 1)).1 (stD l (j + 1)).2) ∧ (stD l l.length).1 = 0 := fun hS hR => by
    obtain ⟨h1, h2⟩ := Bb1 hk f (i + 1) (by omega) (by omega) hR
    refine ⟨fun j ha hb => ?_, h2⟩
    by_cases hc : i + 1 ≤ j
    ·exact h1 j hc hb
    ·have : j = i := by omega
     subst this; exact hS
   have hst : stD l (i + 1) = if rkd l i = 0 then ((stD l i).1, true) else if rkd l i = 1 ∨ rkd l i = 2 then ((stD l i).1 + 1, false) else if rkd l i = 3 then ((stD l i).1 - 1, true) else ((stD l i).1, false) := rfl
   by_cases h0 : rkd l i = 0
   ·rw [Dr2 h0] at h hst
    exact go (.inl ⟨h0, by rw [hst], by rw [hst]⟩) (by rw [hst]; exact h)
   rw [Dr1 h0] at h hst
   by_cases h1 : rkd l i = 1 ∨ rkd l i = 2
   ·rw [Dr2 h1] at h hst
    split at h
    ·cases h
    exact go (.inr (.inl ⟨h1, by rw [hst], by rw [hst]⟩)) (by rw [hst]; exact h)
   rw [Dr1 h1] at h hst
   by_cases h3 : rkd l i = 3
   ·rw [Dr2 h3] at h hst
    split at h
    ·cases h
    exact go (.inr (.inr (.inl ⟨h3, by rw [hst]; show _ = _ - 1 + 1; omega, by rw [hst]⟩))) (by rw [hst]; exact h)
   rw [Dr1 h3] at h hst
   by_cases h4 : rkd l i = 4
   ·rw [Dr2 h4] at h
    exact go (.inr (.inr (.inr (.inl ⟨h4, by rw [hst], by rw [hst]⟩)))) (by rw [hst]; exact h)
   rw [Dr1 h4] at h
   split at h
   ·cases h
   rename_i h6
   exact go (.inr (.inr (.inr (.inr ⟨by omega, by simpa using h6, by rw [hst], by rw [hst]⟩)))) (by rw [hst]; exact h)
  ·rw [Dr1 hin] at h
   have : i = l.length := by omega
   subst this
   refine ⟨fun j ha hb => by omega, ?_⟩
   split at h
   ·cases h
   ·omega
theorem Bb0 {l : List RTk} {size : Int} (hk : ∀ i, i < l.length → 0 ≤ rkd l i ∧ rkd l i ≤ 5) (h : (Bp7 l size).2 = 0) : Shp l (fun i => (stD l i).1) (fun i => (stD l i).2) := by
 obtain ⟨h1, h2⟩ := Bb1 (size := size) hk (l.length + 1) 0 rfl (Ds0 _) h
 exact ⟨fun i hi => h1 i (Ds0 _) hi, rfl, rfl, h2⟩
theorem Shp.all {l : List RTk} {d : Nat → Nat} {a : Nat → Bool} (h : Shp l d a) : Rng l d a 0 0 l.length := ⟨Ds0 _, Ds3 _, h.d0, h.dn, h.a0, fun _ _ _ => Ds0 _⟩
theorem Ar4 (L : List Nat) (t : RTk) (e : Int × Int) : (Da0 L t e).1.kind = t.kind := by
 unfold Da0
 split
 ·rfl
 ·dsimp only; split <;> rfl
theorem Dg5 (L : List Nat) (i : Nat) : 0 ≤ (Cg6 L i).1.kind ∧ (Cg6 L i).1.kind ≤ 5 := by
 unfold Cg6
 simp only []
 by_cases h1 : L.getD i 0 = 92
 ·rw [Dr2 h1]; constructor <;> simp
 rw [Dr1 h1]
 by_cases h2 : L.getD i 0 = 91
 ·rw [Dr2 h2]; constructor <;> simp
 rw [Dr1 h2]
 by_cases h3 : L.getD i 0 = 40
 ·rw [Dr2 h3]
  split <;> constructor <;> simp
 rw [Dr1 h3]
 by_cases h4 : L.getD i 0 = 41
 ·rw [Dr2 h4]; constructor <;> simp
 rw [Dr1 h4]
 by_cases h5 : L.getD i 0 = 124
 ·rw [Dr2 h5]; constructor <;> simp
 rw [Dr1 h5]
 by_cases h6 : L.getD i 0 = 46
 ·rw [Dr2 h6]; constructor <;> simp
 rw [Dr1 h6]
 by_cases h7 : L.getD i 0 = 94 ∨ L.getD i 0 = 36
 ·rw [Dr2 h7]; constructor <;> simp
 rw [Dr1 h7]
 by_cases h8 : L.getD i 0 = 93 ∨ L.getD i 0 = 125
 ·rw [Dr2 h8]; constructor <;> simp
 rw [Dr1 h8]
 by_cases h9 : L.getD i 0 ∉ C2 cntT
 ·rw [Dr2 h9]; constructor <;> simp
 rw [Dr1 h9]
 split
 ·rw [Ar4]; constructor <;> simp
 split
 ·rw [Ar4]; constructor <;> simp
 split
 ·rw [Ar4]; constructor <;> simp
 ·rw [Ar4]; constructor <;> simp
theorem Av6 (L : List Nat) : ∀ (f i : Nat) (l : List RTk), (∀ t ∈ l, 0 ≤ t.kind ∧ t.kind ≤ 5) → ∀ t ∈ (Aa1 L f i l).1, 0 ≤ t.kind ∧ t.kind ≤ 5
 | 0, i, l, h => by rw [Aa1]; exact h
 | f + 1, i, l, h => by
  rw [Aa1]
  split
  ·simp only []
   split
   ·intro t ht; cases ht
   ·refine Av6 L f _ _ fun t ht => ?_
    rcases Dv0.1 ht with h1 | h1
    ·exact h t h1
    ·rw [Dr4] at h1
     subst h1
     exact Dg5 L i
  ·exact h
theorem rkd_ok (L : List Nat) : ∀ i, i < (M5 L).1.length → 0 ≤ rkd (M5 L).1 i ∧ rkd (M5 L).1 i ≤ 5 := by
 intro i hi
 unfold rkd
 rw [Dr3, Dr5 hi]
 exact Av6 L _ 0 [] (fun t ht => by cases ht) _ (List.getElem_mem hi)
theorem Bj9 (L : List Nat) (hL : ∀ b ∈ L, b < 256) : ∀ (f i : Nat) (l : List RTk), l.length ≤ i → i ≤ L.length → (Aa1 L f i l).1.length ≤ L.length
 | 0, i, l, h, hi => by rw [Aa1]; exact Du7 h hi
 | f + 1, i, l, h, hi => by
  rw [Aa1]
  split
  ·rename_i hin
   have hg := By1 L hL i hin
   simp only []
   generalize Cg6 L i = x at *
   obtain ⟨x, p, e⟩ := x
   simp only [] at *
   split
   ·exact Ds0 _
   ·rename_i he
    obtain ⟨j, hj, h1, h2⟩ := hg (by simpa using he)
    simp only [] at hj
    subst hj
    rw [Ds1]
    exact Bj9 L hL f j _ (by simp; omega) h2
  ·exact Du7 h hi
theorem Bj8 (L : List Nat) (hL : ∀ b ∈ L, b < 256) : (M5 L).1.length ≤ L.length := Bj9 L hL _ 0 [] (Ds0 _) (Ds0 _)
def O4 (L : List Nat) : R6 × Int × Int :=
 if (M5 L).2.2 ≠ 0 then (default, (M5 L).2)
 else if (Bp7 (M5 L).1 L.length).2 ≠ 0 then (default, Bp7 (M5 L).1 L.length)
 else (Aw0 (M5 L).1 L.length (2 * (M5 L).1.length + 2) true 0 (M5 L).1.length, 0, 0)
def RCatC (l : List RTk) (A : Option Addr) (c : Nat) (size : Int) (f : Nat) : Prop := ∀ (dd : Nat → Nat) (aa : Nat → Bool) (D x y : Nat) (F : Nat → Prop) (w : World), Shp l dd aa → Rng l dd aa D x y → Da9 l dd D x y → 2 * (y - x) < f → (∀ b, F b → b < w.heap.size) → Rd F w 10 A l.length (S5 l) → Calls P 146 #[.slice A l.length c, .int .i64 (x : Nat), .int .i64 (y : Nat), .int .i64 size] w (Ret fun u w' => Chg [] w w' ∧ ∃ cs, u = .agg cs.toArray ∧ N6 (FR w.heap.size w'.heap.size []) w' (Aw0 l size f false x y) cs)
def RAltC (l : List RTk) (A : Option Addr) (c : Nat) (size : Int) (f : Nat) : Prop := ∀ (dd : Nat → Nat) (aa : Nat → Bool) (D x y : Nat) (F : Nat → Prop) (w : World), Shp l dd aa → Rng l dd aa D x y → 2 * (y - x) + 1 < f → (∀ b, F b → b < w.heap.size) → Rd F w 10 A l.length (S5 l) → Calls P 120 #[.slice A l.length c, .int .i64 (x : Nat), .int .i64 (y : Nat), .int .i64 size] w (Ret fun u w' => Chg [] w w' ∧ ∃ cs, u = .agg cs.toArray ∧ N6 (FR w.heap.size w'.heap.size []) w' (Aw0 l size f true x y) cs)
theorem N6.cells {F : Nat → Prop} {w : World} {t : R6} {cs : List Value} (h : N6 F w t cs) : ∃ a0 a1 a2 a3 a4 a5 a6 a7 a8, cs = [a0, a1, a2, a3, a4, a5, a6, a7, a8, .int .i64 t.frm, .int .i64 t.till] := by
 cases t with
 | node k s mn mx lz l fr tl =>
  rw [N6] at h
  obtain ⟨A, c, css, rfl, _⟩ := h
  exact ⟨_, _, _, _, _, _, _, _, _, rfl⟩
theorem N6r.snoc {F : Nat → Prop} {w : World} {t : R6} {cs : List Value} : ∀ {l : List R6} {css : List (List Value)}, N6r F w l css → N6 F w t cs → N6r F w (l ++ [t]) (css ++ [cs])
 | [], css, h, ht => by
  rw [N6r] at h
  subst h
  show N6r F w [t] [cs]
  rw [N6r]
  exact ⟨cs, [], rfl, ht, by rw [N6r]⟩
 | u :: r, css, h, ht => by
  rw [N6r] at h
  obtain ⟨cu, rest, rfl, h2, h3⟩ := h
  show N6r F w (u :: (r ++ [t])) (cu :: (rest ++ [cs]))
  rw [N6r]
  exact ⟨cu, rest ++ [cs], rfl, h2, N6r.snoc h3 ht⟩
theorem N6r.row {F : Nat → Prop} {w : World} : ∀ {l : List R6} {css : List (List Value)}, N6r F w l css → ∀ k, k < l.length → ∀ j v, (css.getD k [])[j]? = some v → (List.flatten css)[k * 11 + j]? = some v
 | [], css, h, k, hk => by simp at hk
 | t :: r, css, h, k, hk => by
  rw [N6r] at h
  obtain ⟨cs, rest, rfl, h2, h3⟩ := h
  intro j v hv
  have hlen := h2.len
  rw [List.flatten_cons]
  cases k with
  | zero =>
   rw [Du1 (by have := (Ds8.1 hv).1; simp at this; omega)]
   simpa using hv
  | succ k =>
   rw [Dt8 (by omega), show (k + 1) * 11 + j - cs.length = k * 11 + j by omega]
   exact N6r.row h3 k (by simpa using hk) j v (by simpa using hv)
theorem N6r.one {F : Nat → Prop} {w : World} {l : List R6} {css : List (List Value)} (h : N6r F w l css) (hl : l.length = 1) : ∃ n cs, l = [n] ∧ css = [cs] ∧ N6 F w n cs := by
 match l, hl with
 | [n], _ =>
  rw [N6r] at h
  obtain ⟨cs, rest, rfl, h2, h3⟩ := h
  rw [N6r] at h3
  subst h3
  exact ⟨n, cs, rfl, rfl, h2⟩
theorem N6.ends {F : Nat → Prop} {w : World} {t : R6} {cs : List Value} (h : N6 F w t cs) : cs[9]? = some (.int .i64 t.frm) ∧ cs[10]? = some (.int .i64 t.till) := by
 obtain ⟨a0, a1, a2, a3, a4, a5, a6, a7, a8, rfl⟩ := h.cells
 exact ⟨rfl, rfl⟩
theorem N6.one1 {F : Nat → Prop} {w : World} {t : R6} {cs : List Value} (h : N6 F w t cs) : cs.all Value.oneCell' = true := by
 cases t with
 | node k s mn mx lz l fr tl =>
  rw [N6] at h
  obtain ⟨A, c, css, rfl, _⟩ := h
  rfl
theorem Dh4 {F : Nat → Prop} {w : World} {A : Option Addr} {c : Nat} {l : List R6} {css : List (List Value)} (k : Int) (s : Nat) (mn mx : Int) (lz : Bool) (x y : Int) (hr : Rd F w 11 A l.length (List.flatten css)) (hI : N6r F w l css) : N6 F w (.node k s mn mx lz l x y) (n6C k s mn mx lz A l.length c x y) := by
 rw [N6]
 exact ⟨A, c, css, rfl, hr, hI⟩
theorem Ch0 {F : Nat → Prop} {w : World} (k : Int) (s : Nat) (a b : Int) : N6 F w (.node k s 0 0 false [] a b) (n6C k s 0 0 false none 0 0 a b) := by
 rw [N6]
 exact ⟨none, 0, [], rfl, Rd.nil _ _ _ _, by rw [N6r]⟩
theorem n6_one {F F' : Nat → Prop} {w : World} {b : Nat} {n : R6} {cs : List Value} (k : Int) (s : Nat) (mn mx : Int) (lz : Bool) (x y : Int) (hB : Blk w b cs 140) (hF : F b) (hn : N6 F' w n cs) (hm : ∀ z, F' z → z < w.heap.size → F z) : N6 F w (.node k s mn mx lz [n] x y) (n6C k s mn mx lz (some ⟨b, 0, none⟩) 1 1 x y) := by
 have hlen := hn.len
 rw [N6]
 refine ⟨some ⟨b, 0, none⟩, 1, [cs], rfl, by simpa using hB.rd (sz := 11) (m := 1) (by simp [hlen]) hF, ?_⟩
 rw [N6r]
 exact ⟨cs, [], rfl, hn.mono hm, by rw [N6r]⟩
theorem rcat_c (l : List RTk) (A : Option Addr) (c : Nat) (size : Int) (f : Nat) (hl : l.length ≤ 100000) (hA : RAltC l A c size f) : RCatC l A c size (f + 1) := by
 intro dd aa D x y F w hS hR hN hf hF hr
 have hC := A8 [] w
 have hyl := hR.len
 have hxy := hR.le
 have hP : Aw0 l size (f + 1) false x y = catE l size x (Ay2 l (fun i k => Aw0 l size f true i k) y (y + 1 - x) x []) := rfl
 rw [hP]
 generalize hr0 : Ay2 l (fun i k => Aw0 l size f true i k) y (y + 1 - x) x [] = r
 refine D3 Tryz.func146 rfl rfl (Qd (B4 rfl (B6 Ag3 rfl) ?_))
 intro b1 w1 hb1 hs1 hx1 hB1
 have hC := hC.s0 hx1
 have hr := hr.u hx1
 refine Qc (Qd (Zc 1 rfl (Qa (Qd (Zc 2 rfl (B0 (D7 (σ := Nat × Nat × List R6 × List (List Value) × Option Addr × Nat) (fun (g, i, o, css, A', c') => [(0, .slice A l.length c), (1, .int .i64 (x : Nat)), (2, .int .i64 (y : Nat)), (3, .int .i64 size), (8, .pointer (some ⟨b1, 0, none⟩)), (9, .slice A' o.length c'), (10, .int .i64 (i : Nat))]) (fun (g, i, o, css, A', c') wr => Chg [] w wr ∧ Rd F wr 10 A l.length (S5 l) ∧ Blk wr b1 [.int .i64 0, .int .u64 0, .int .u64 0, .int .u64 0, .int .u64 0, .int .i64 0, .int .i64 0, .bool false, .slice none 0 0, .int .i64 0, .int .i64 0] 140 ∧ Own wr (b1 + 1) 140 11 A' o.length c' (List.flatten css) ∧ N6r (FR (b1 + 1) wr.heap.size (F6 A')) wr o css ∧ Ay2 l (fun i k => Aw0 l size f true i k) y g i o = r ∧ AtI l dd aa D x y i ∧ o.length ≤ i ∧ y < i + g) (fun (g, i, o, css, A', c') wr => g) (y + 1 - x, x, [], [], none, 0) (sb rfl) ?_ ?_)))))))
 ·exact ⟨hC, hr, hB1, Own.nil _ _ _ _, by rw [N6r], hr0, ⟨Ds3 _, hxy, hR.dx, .inl hR.ax⟩, Ds0 _, by omega⟩
 rintro ⟨g, i, o, css, A', c'⟩ w9 ⟨hC, hr, hB1, hO, hI, hcl, hat, hol, hfu⟩
 have hOb := hO.blk
 try have hlB1 := hB1.lt
 refine Qa (Qd (Zc 3 rfl (A4 rfl (fun h1 => ?_) (fun h1 => ?_))))
 ·try simp at h1
  have hin : i < y := by omega
  have hil : i < l.length := by omega
  have hkd := hat.kind hS hR hN hin
  obtain ⟨g, rfl⟩ : ∃ q, g = q + 1 := ⟨g - 1, by omega⟩
  rw [Ay2, Dr2 hin] at hcl
  obtain ⟨gA, off, rfl, hFg, hlt, hcell⟩ := hr.at_ (by omega)
  refine A7 (B0 (Qd (Z 2 rfl (C7 rfl (B9 Ah5 rfl rfl (by omega) (by omega)) (C7 rfl (E4 (vs := Ao1 (l.getD i default)) J3 rfl (E9 _) (fun j v hj => by rw [Dt1]; exact hcell (i * 10 + j) v (by have hj4 : j < 10 := (Ds8.1 hj).1; rw [L5 l i j hil hj4]; exact hj)) rfl) ?_)))))
  have hkt : rkd l i = (l.getD i default).kind := rfl
  generalize htk : l.getD i default = t at *
  refine B4 rfl (B6 Ce5 rfl) ?_
  intro b2 w2 hb2 hs2 hx2 hB2
  have hr := hr.u hx2
  have hO := hO.u hx2
  have hI := hI.u hx2
  refine Pe T0 rfl ‹_› rfl rfl ?_
  intro w3 hs3 hx3 hB2
  have hr := hr.q hx3 (by intro b hb hFb; have := hF _ hFb; simp at hb; omega)
  have hO := (by exact hO.q hx3 (by intro x hx; have hx := Dr4.1 hx; right; intro h; have := hOb x (by rw [h]; exact Dr4.2 rfl); omega))
  have hI := hI.q hx3 (by intro x hx hf; have hx := Dr4.1 hx; have h1 := hf.1; have h2 := hf.2.1; omega)
  refine Qc (Qd (Fa Bd8 rfl (La I5 rfl ‹_› (by rfl) rfl ?_)))
  refine Fa An3 rfl (Lb o3 rfl ‹_› (by rfl) ?_)
  refine Fa Bs6 rfl (Lb o3 rfl ‹_› (by rfl) ?_)
  refine C7 rfl (A9 Ag3 By0 rfl (by rfl)) ?_
  refine B4 rfl (B6 Ag3 rfl) ?_
  intro b4 w4 hb4 hs4 hx4 hB4
  have hr := hr.u hx4
  have hO := hO.u hx4
  have hI := hI.u hx4
  refine Pe Ay0 rfl ‹_› rfl rfl ?_
  intro w5 hs5 hx5 hB4
  have hC := hC.step (((hx2.j hx3).j hx4).j hx5) (by simp <;> omega)
  have hr := hr.q hx5 (by intro b hb hFb; have := hF _ hFb; simp at hb; omega)
  have hB1 := hB1.q (((hx2.j hx3).j hx4).j hx5) (by simp <;> omega)
  have hO := (by exact hO.q hx5 (by intro x hx; have hx := Dr4.1 hx; right; intro h; have := hOb x (by rw [h]; exact Dr4.2 rfl); omega))
  have hI := hI.q hx5 (by intro x hx hf; have hx := Dr4.1 hx; have h1 := hf.1; have h2 := hf.2.1; omega)
  have hB2 := hB2.q (hx4.j hx5) (by simp <;> omega)
  refine Qc (Qd (Z 1 rfl (Ad rfl rfl (by omega) (Zc 1 rfl (I1 (fun e9 wr => ∃ n j cs, Sub [(0, .slice (some ⟨gA, off, none⟩) l.length c), (1, .int .i64 (x : Nat)), (2, .int .i64 (y : Nat)), (3, .int .i64 size), (8, .pointer (some ⟨b1, 0, none⟩)), (9, .slice A' o.length c'), (10, .int .i64 (j : Nat)), (12, .pointer (some ⟨b4, 0, none⟩))] e9 ∧ Chg [] w wr ∧ Rd F wr 10 (some ⟨gA, off, none⟩) l.length (S5 l) ∧ Blk wr b1 [.int .i64 0, .int .u64 0, .int .u64 0, .int .u64 0, .int .u64 0, .int .i64 0, .int .i64 0, .bool false, .slice none 0 0, .int .i64 0, .int .i64 0] 140 ∧ Own wr (b1 + 1) 140 11 A' o.length c' (List.flatten css) ∧ N6r (FR (b1 + 1) w9.heap.size (F6 A')) wr o css ∧ Blk wr b4 cs 140 ∧ N6 (FR (b4 + 1) wr.heap.size []) wr n cs ∧ Cq5 l (fun i k => Aw0 l size f true i k) i = (n, j) ∧ i < j ∧ j ≤ y ∧ dd j = D ∧ aa j = true ∧ b4 < wr.heap.size) ?_ ?_)))))
  ·refine Qd (Fa Q4 rfl (Lb o3 rfl ‹_› (by rfl) ?_))
   refine Zc 1 rfl (A4 rfl (fun k0 => ?_) (fun k0 => ?_))
   ·try simp at k0
    have k0' : ¬ rkd l i = 0 := by rw [hkt]; exact k0
    have hlo := hat.lo
    have hk12 : rkd l i = 1 ∨ rkd l i = 2 := by
     rcases hkd with h | h
     ·exact absurd h.1 k0'
     ·exact h
    obtain ⟨k, hk1, hk2, hk3, hk4, hk5, hkr⟩ := hR.group hS hat.lo hin hat.di hk12
    have hkl := hkr.le
    refine Qd (Z 2 rfl (Ca fb173 rfl (rclose_c l F _ c (i + 1) (by omega) hl _ (fun z hz => by have := hF z hz; omega) ‹_›) ?_))
    rintro _ w6 ⟨rfl, hx6⟩
    have hz6 := hx6.size
    rw [hk1]
    refine Zc 1 rfl (Qa (C6 (S := []) 16 [(0, 0), (0, 1), (0, 2), (0, 3), (0, 4), (0, 5), (0, 6), (0, 9), (0, 10), (0, 11), (0, 12), (0, 13), (0, 14), (0, 15), (1, 7), (1, 8), (2, 16), (2, 17)] mo (by kernel_rfl) ?_))
    intro w7 hx7 hh7
    have hr := hr.u (hx6.s0 hx7)
    have hB2 := hB2.u (hx6.s0 hx7)
    have hCS7 := A8 ([]) w7
    obtain ⟨_, _, hE2, _, _, hcell2⟩ := hr.at_ (by omega)
    cases hE2
    have hc2 := hcell2 (k * 10 + 2) _ ((L5 l k 2 (by omega) (by omega)).trans rfl)
    refine Fa Q4 rfl (D5 rfl (B2 o3 rfl ‹_› (by simp; done) (by rfl)) ?_)
    refine Ad rfl rfl (by omega) (Z 4 rfl (Fa An3 rfl (D5 rfl (B2 o3 rfl ‹_› (by simp; done) (by rfl)) ?_)))
    refine Z 2 rfl (D5 rfl (B9 Ah5 rfl rfl (by omega) (by omega)) (Fa Bs6 rfl (D5 rfl (E5 o3 rfl hc2 (by simp; done)) ?_)))
    refine C4 rfl (C0 fb120 rfl) (hA dd aa (D + 1) (i + 1) k F _ hS hkr (by omega) (fun z hz => by have := hF z hz; omega) ‹_›) ?_
    rintro _ w8 ⟨hx8, cs1, rfl, hn1⟩
    have hz8 := hx8.size
    have hCS7 := hCS7.s0 hx8
    refine ⟨hCS7, ?_⟩
    obtain ⟨a0, a1, a2, a3, a4, a5, a6, a7, a8, rfl⟩ := hn1.cells
    refine D9 rfl (B5 Ao5 Tryz.underlying138 Ag3 rfl rfl rfl (by rfl)) ?_
    intro b9 w9 hb9 hs9 hx9 hB9
    have hr := hr.u (hx8.s0 hx9)
    have hO := hO.u (((hx6.s0 hx7).s0 hx8).s0 hx9)
    have hI := hI.u (((hx6.s0 hx7).s0 hx8).s0 hx9)
    have hB4 := hB4.u (((hx6.s0 hx7).s0 hx8).s0 hx9)
    have hCS7 := hCS7.s0 hx9
    have hn1 := hn1.u hx9
    refine ⟨hCS7, ?_⟩
    refine C7 rfl (A9 Ag3 By0 rfl (by rfl)) ?_
    refine Pe Ay0 rfl ‹_› rfl rfl ?_
    intro w10 hs10 hx10 hB4
    have hC := hC.step ((((hx6.j hx7).j hx8).j hx9).j hx10) (by simp <;> omega)
    have hr := hr.q hx10 (by intro b hb hFb; have := hF _ hFb; simp at hb; omega)
    have hB1 := hB1.q ((((hx6.j hx7).j hx8).j hx9).j hx10) (by simp <;> omega)
    have hO := (by exact hO.q hx10 (by intro x hx; have hx := Dr4.1 hx; right; intro h; have := hOb x (by rw [h]; exact Dr4.2 rfl); omega))
    have hI := hI.q hx10 (by intro x hx hf; have hx := Dr4.1 hx; have h1 := hf.1; have h2 := hf.2.1; omega)
    have hn1 := hn1.q hx10 (by intro x hx hf; have hx := Dr4.1 hx; have h1 := hf.1; have h2 := hf.2.1; omega)
    have hB9 := hB9.q hx10 (by simp; omega)
    refine Qc (Qb (Z 1 rfl (Ad rfl rfl (by omega) (Zc 1 rfl ⟨(.node (1 + rkd l i) 0 0 0 false [Aw0 l size f true (i + 1) k] t.frm (l.getD k default).till), (k + 1), (n6C (1 + rkd l i) 0 0 0 false (some ⟨b9, 0, none⟩) 1 1 t.frm (l.getD k default).till), sb rfl, ?_⟩))))
    refine ⟨hC, hr, hB1, hO, hI, by unfold n6C; rw [C3, hkt]; exact hB4, n6_one _ _ _ _ _ _ _ hB9 ⟨by omega, by have := hB9.lt; omega, by simp⟩ hn1 (fun z hz hzl => ⟨by have := hz.1; omega, hzl, by simp⟩), ?_, by omega, by omega, hk4, hk5, hB4.lt⟩
    unfold Cq5
    rw [Dr1 k0', hk1, htk]
    rfl
   ·try simp at k0
    refine A7 ⟨(.node 1 t.set 0 0 false [] t.frm t.till), (i + 1), (n6C 1 t.set 0 0 false none 0 0 t.frm t.till), sb rfl, ?_⟩
    have k0' : rkd l i = 0 := by rw [hkt]; exact k0
    rcases hkd with hk1 | hk1
    refine ⟨hC, hr, hB1, hO, hI, hB4, Ch0 _ _ _ _, ?_, by omega, by omega, hk1.2.1, hk1.2.2, hB4.lt⟩
    unfold Cq5
    rw [Dr2 k0', htk]
    exfalso; omega
  rintro e9 w20 ⟨n, j, cs, hs9, hC, hr, hB1, hO, hI, hB4, hn, hkk, hij, hjy, hdj, haj, hb4l⟩
  refine I0 _ hs9 ?_
  clear hs9 e9
  rw [hkk] at hcl
  refine I1 (fun e9 wr => ∃ m j2 cs2, Sub [(0, .slice (some ⟨gA, off, none⟩) l.length c), (1, .int .i64 (x : Nat)), (2, .int .i64 (y : Nat)), (3, .int .i64 size), (8, .pointer (some ⟨b1, 0, none⟩)), (9, .slice A' o.length c'), (10, .int .i64 (j2 : Nat)), (12, .pointer (some ⟨b4, 0, none⟩))] e9 ∧ Chg [] w wr ∧ Rd F wr 10 (some ⟨gA, off, none⟩) l.length (S5 l) ∧ Blk wr b1 [.int .i64 0, .int .u64 0, .int .u64 0, .int .u64 0, .int .u64 0, .int .i64 0, .int .i64 0, .bool false, .slice none 0 0, .int .i64 0, .int .i64 0] 140 ∧ Own wr (b1 + 1) 140 11 A' o.length c' (List.flatten css) ∧ N6r (FR (b1 + 1) w9.heap.size (F6 A')) wr o css ∧ Blk wr b4 cs2 140 ∧ N6 (FR (b4 + 1) wr.heap.size []) wr m cs2 ∧ Ay1 l y (n, j) = (m, j2) ∧ i < j2 ∧ AtI l dd aa D x y j2 ∧ b4 < wr.heap.size) ?_ ?_
  ·refine Qd (Z 4 rfl (B7 (d := 60) rfl (fun g1 => ?_) (fun g1 => ?_)))
   ·try simp at g1
    have hjl : j < l.length := by omega
    obtain ⟨_, _, hE3, _, _, hcell3⟩ := hr.at_ (by omega)
    cases hE3
    have hc3 := hcell3 (j * 10 + 0) _ ((L5 l j 0 hjl (by omega)).trans rfl)
    refine Qu rfl (Z 1 rfl (Qu rfl (Z 1 rfl (Qu rfl (C7 rfl (B9 Ah5 rfl rfl (by omega) (by omega)) (Qu rfl (Fa Q4 rfl (Qu rfl (Lc o3 rfl hc3 ?_)))))))))
    have hkj : rkd l j = (l.getD j default).kind := rfl
    generalize htj : l.getD j default = q at *
    refine Qu rfl (Zc 2 rfl (A4 rfl (fun q5 => ?_) (fun q5 => ?_)))
    ·try simp at q5
     have q5' : rkd l j = 5 := by rw [hkj]; exact q5
     obtain ⟨a0, a1, a2, a3, a4, a5, a6, a7, a8, rfl⟩ := hn.cells
     refine Qa (C6 (S := []) 24 [(0, 0), (0, 1), (0, 2), (0, 3), (0, 4), (0, 5), (0, 6), (0, 7), (0, 8), (0, 9), (0, 10), (0, 11), (0, 12), (0, 13), (0, 14), (0, 15), (0, 17), (0, 18), (0, 19), (0, 20), (0, 21), (0, 22), (0, 23), (1, 16), (2, 24), (2, 25)] mo (by kernel_rfl) ?_)
     intro w11 hx11 hh11
     have hr := hr.u hx11
     have hB4 := hB4.u hx11
     have hCS11 := A8 ([]) w11
     obtain ⟨_, _, hE4, _, _, hcell4⟩ := hr.at_ (by omega)
     cases hE4
     have hq7 := hcell4 (j * 10 + 7) _ ((L5 l j 7 hjl (by omega)).trans rfl)
     have hq8 := hcell4 (j * 10 + 8) _ ((L5 l j 8 hjl (by omega)).trans rfl)
     have hq9 := hcell4 (j * 10 + 9) _ ((L5 l j 9 hjl (by omega)).trans rfl)
     have hq2 := hcell4 (j * 10 + 2) _ ((L5 l j 2 hjl (by omega)).trans rfl)
     rw [htj] at hq7 hq8 hq9 hq2
     refine Z 2 rfl (D5 rfl (B9 Ah5 rfl rfl (by omega) (by omega)) (Fa Ci6 rfl (D5 rfl (E5 o3 rfl hq7 (by simp; done)) ?_)))
     refine Z 2 rfl (D5 rfl (B9 Ah5 rfl rfl (by omega) (by omega)) (Fa Bs5 rfl (D5 rfl (E5 o3 rfl hq8 (by simp; done)) ?_)))
     refine Z 2 rfl (D5 rfl (B9 Ah5 rfl rfl (by omega) (by omega)) (Fa Dl1 rfl (D5 rfl (E5 o4 rfl hq9 (by simp; done)) ?_)))
     refine D5 rfl (B8 Aj7 rfl ‹_› (by simp; done) rfl rfl) ?_
     refine Fa Cj3 rfl (D5 rfl (B2 o3 rfl ‹_› (by simp; done) (by rfl)) ?_)
     refine Z 2 rfl (D5 rfl (B9 Ah5 rfl rfl (by omega) (by omega)) (Fa Bs6 rfl (D5 rfl (E5 o3 rfl hq2 (by simp; done)) ?_)))
     refine D9 rfl (B5 Ao5 Tryz.underlying138 Ag3 rfl rfl rfl (by rfl)) ?_
     intro b12 w12 hb12 hs12 hx12 hB12
     have hr := hr.u hx12
     have hO := hO.u (hx11.s0 hx12)
     have hI := hI.u (hx11.s0 hx12)
     have hB4 := hB4.u hx12
     have hn := hn.u (hx11.s0 hx12)
     have hCS11 := hCS11.s0 hx12
     refine ⟨hCS11, ?_⟩
     refine C7 rfl (A9 Ag3 By0 rfl (by rfl)) ?_
     refine Pe Ay0 rfl ‹_› rfl rfl ?_
     intro w13 hs13 hx13 hB4
     have hC := hC.step ((hx11.j hx12).j hx13) (by simp <;> omega)
     have hr := hr.q hx13 (by intro b hb hFb; have := hF _ hFb; simp at hb; omega)
     have hB1 := hB1.q ((hx11.j hx12).j hx13) (by simp <;> omega)
     have hO := (by exact hO.q hx13 (by intro x hx; have hx := Dr4.1 hx; right; intro h; have := hOb x (by rw [h]; exact Dr4.2 rfl); omega))
     have hI := hI.q hx13 (by intro x hx hf; have hx := Dr4.1 hx; have h1 := hf.1; have h2 := hf.2.1; omega)
     have hn := hn.q hx13 (by intro x hx hf; have hx := Dr4.1 hx; have h1 := hf.1; have h2 := hf.2.1; omega)
     have hB12 := hB12.q hx13 (by simp; omega)
     refine Qc (Qb (Z 1 rfl (Ad rfl rfl (by omega) (Zc 1 rfl ⟨(cntN q n), (j + 1), (n6C 6 0 q.mn q.mx q.lz (some ⟨b12, 0, none⟩) 1 1 n.frm q.till), sb rfl, ?_⟩))))
     refine ⟨hC, hr, hB1, hO, hI, by unfold n6C; rw [C3]; exact hB4, n6_one _ _ _ _ _ _ _ hB12 ⟨by omega, by have := hB12.lt; omega, by simp⟩ hn (fun z hz hzl => ⟨by have := hz.1; omega, hzl, by simp⟩), ?_, by omega, AtI.more hS hR (by have := hat.lo; omega) (by omega) hdj q5', hB4.lt⟩
     unfold Ay1
     rw [Dr2 ⟨by show j < y; omega, q5'⟩, htj]
    ·try simp at q5
     refine A7 ⟨n, j, cs, sb rfl, ?_⟩
     refine ⟨hC, hr, hB1, hO, hI, hB4, hn, ?_, hij, ⟨by have := hat.lo; omega, hjy, hdj, .inr fun _ => by rw [hkj]; exact q5⟩, hB4.lt⟩
     unfold Ay1
     rw [Dr1 (by intro h; exact q5 (by rw [← hkj]; exact h.2))]
   ·try simp at g1
    refine Qk rfl (Qk rfl (Qk rfl (Qk rfl (Qk rfl (Qk rfl (Zc 1 rfl (E3 rfl (A7 ⟨n, j, cs, sb rfl, ?_⟩))))))))
    refine ⟨hC, hr, hB1, hO, hI, hB4, hn, ?_, hij, ⟨by have := hat.lo; omega, hjy, hdj, .inr fun h => by omega⟩, hB4.lt⟩
    unfold Ay1
    rw [Dr1 (by intro h; have := h.1; simp at this; omega)]
  rintro e9 w21 ⟨m, j2, cs2, hs9, hC, hr, hB1, hO, hI, hB4, hm, hst, hij2, hat2, hb4l⟩
  refine I0 _ hs9 ?_
  clear hs9 e9
  try have hlB1 := hB1.lt
  rw [hst] at hcl
  have hone := hm.one1
  obtain ⟨a0, a1, a2, a3, a4, a5, a6, a7, a8, rfl⟩ := hm.cells
  refine Qb (Z 1 rfl (La Aj7 rfl ‹_› rfl rfl ?_))
  refine B4 rfl (B5 Ao5 Tryz.underlying138 Ag3 rfl rfl rfl (by rfl)) ?_
  intro b14 w14 hb14 hs14 hx14 hB14
  have hC := hC.s0 hx14
  have hr := hr.u hx14
  have hB1 := hB1.u hx14
  have hO := hO.u hx14
  have hI := hI.u hx14
  have hm := hm.u hx14
  refine G5 rfl el138 rfl rfl hO (Blk.rd (F := fun _ => True) ‹_› rfl trivial) ‹_› (by omega) (by omega) ?_
  intro A2' c2' w15 hO15 hx15 hA2'
  have hC := hC.step hx15 (by intro x h; have := hOb x h; exact .inr (by omega))
  have hr := hr.q hx15 (by intro x hx hf; have := hOb x hx; have := hF x hf; omega)
  have hB1 := hB1.q hx15 (by intro h; have := hOb _ h; omega)
  have hI := hI.q hx15 (by intro x hx hf; exact hf.2.2 hx)
  have hm := hm.q hx15 (by intro x hx hf; have := hOb x hx; have h1 := hf.1; have h2 := hf.2.1; omega)
  replace hO := hO15
  refine Zc 1 rfl ⟨(g, j2, o ++ [m], css ++ [[a0, a1, a2, a3, a4, a5, a6, a7, a8, .int .i64 m.frm, .int .i64 m.till]], A2', c2'), ⟨rfl, rfl, rfl, rfl, rfl, (S6 rfl (by rw [Dr7]; rfl)), rfl, trivial⟩, ?_, ?_⟩
  refine ⟨hC, hr, hB1, by rw [Dr7, Dy4]; exact hO, N6r.snoc (hI.mono fun z hz hzl => ?_) (hm.mono fun z hz hzl => ?_), hcl, hat2, by rw [Dr7]; simp; omega, by omega⟩
  exact ⟨hz.1, hzl, U1 hA2' hz.2.2 (by have := hz.2.1; omega)⟩
  exact ⟨by have := hz.1; omega, hzl, U1 hA2' (fun h => by have := hOb z h; have := hz.1; omega) (by have := hz.2.1; omega)⟩
  show g < g + 1
  omega
 ·try simp at h1
  have hii : i = y := by have := hat.hi; omega
  have hro : r = o := by
   rw [← hcl]
   cases g with
   | zero => rfl
   | succ g => rw [Ay2, Dr1 (by omega)]
  subst hro
  refine Xb (Qa (Qd (Z 1 rfl (Ln Tryz.underlying138 rfl (Zc 1 rfl (A4 rfl (fun q0 => ?_) (fun q0 => ?_)))))))
  ·try simp at q0
   have q0' : r.length = 0 := by simpa using q0
   unfold catE
   rw [Dr2 q0']
   refine Qd (Z 3 rfl (Ca fb174 rfl (rbegin_c l F _ c x size (by omega) hl _ (fun z hz => by have := hF z hz; omega) ‹_›) ?_))
   rintro _ w16 ⟨rfl, hx16⟩
   have hB1 := hB1.u hx16
   refine Zc 1 rfl (Qd (Z 2 rfl (C7 rfl (A9 Ag3 By0 rfl (by rfl)) ?_)))
   refine Pe Ay0 rfl ‹_› rfl rfl ?_
   intro w17 hs17 hx17 hB1
   have hC := hC.step (hx16.j hx17) (by simp <;> omega)
   refine Qc (A6 (C8 rfl rfl (A5 Aj7 ‹_› rfl rfl) ?_))
   refine ⟨hC, n6C 0 0 0 0 false none 0 0 (Bg2 l x size) (Bg2 l x size), by unfold n6C; rw [C3]; rfl, Ch0 _ _ _ _⟩
  ·try simp at q0
   have q0' : ¬ r.length = 0 := by simpa using q0
   unfold catE
   rw [Dr1 q0']
   refine A7 (Qa (Qd (Z 1 rfl (Ln Tryz.underlying138 rfl (Zc 1 rfl (A4 rfl (fun q1 => ?_) (fun q1 => ?_)))))))
   ·try simp at q1
    have q1' : r.length = 1 := by omega
    obtain ⟨n, cs, rfl, rfl, hn⟩ := hI.one q1'
    have hone := hn.one1
    obtain ⟨a0, a1, a2, a3, a4, a5, a6, a7, a8, rfl⟩ := hn.cells
    obtain ⟨g9, o9, rfl, _, _, hcell9⟩ := (hO.rd (F := fun _ => True) (fun _ _ _ => trivial)).at_ (by omega)
    refine Qd (Z 1 rfl (C7 rfl (B9 Ao5 rfl rfl (by omega) (by omega)) (C7 rfl (E4 (vs := [a0, a1, a2, a3, a4, a5, a6, a7, a8, .int .i64 n.frm, .int .i64 n.till]) Aj7 rfl (E9 _) (fun j v hj => hcell9 j v (by simpa using hj)) rfl) ?_)))
    refine Pb (cs' := [a0, a1, a2, a3, a4, a5, a6, a7, a8, .int .i64 n.frm, .int .i64 n.till]) Ay0 rfl rfl hB1 rfl rfl hone rfl rfl ?_
    intro w18 hs18 hx18 hB1
    have hC := hC.step hx18 (by simp; omega)
    have hn := hn.q hx18 (by intro x hx hf; have hx := Dr4.1 hx; have h1 := hf.1; have h2 := hf.2.1; omega)
    refine Qc (A6 (C8 rfl rfl (A5 Aj7 ‹_› rfl rfl) ?_))
    refine ⟨hC, _, rfl, hn.mono fun z hz hzl => ⟨by have := hz.1; omega, hzl, by simp⟩⟩
   ·try simp at q1
    have q1' : ¬ r.length = 1 := by omega
    unfold Bz7
    rw [Dr1 q1']
    refine A7 (Qa (C6 (S := []) 12 [(0, 0), (0, 1), (0, 2), (0, 3), (0, 4), (0, 5), (0, 6), (0, 7), (0, 8), (0, 9), (0, 10), (0, 11), (2, 12), (2, 13)] mo (by kernel_rfl) ?_))
    intro w19 hx19 hh19
    have hB1 := hB1.u hx19
    have hO := hO.u hx19
    have hI := hI.u hx19
    have hcell9 := (hO.rd (F := fun _ => True) (fun _ _ _ => trivial)).at_ (by omega)
    obtain ⟨g9, o9, rfl, _, _, hcell9⟩ := hcell9
    have h9 := hcell9 (0 * 11 + 9) _ (hI.row 0 (by omega) 9 _ (hI.get 0 (by omega)).ends.1)
    have h10 := hcell9 ((r.length - 1) * 11 + 10) _ (hI.row (r.length - 1) (by omega) 10 _ (hI.get (r.length - 1) (by omega)).ends.2)
    refine Z 2 rfl (D5 rfl (B9 Ao5 rfl rfl (by omega) (by omega)) (Fa Cj3 rfl (D5 rfl (E5 o3 rfl h9 (by simp; done)) ?_)))
    refine Z 2 rfl (Ln Tryz.underlying138 rfl (Su rfl rfl (by omega) (D5 rfl (B9 Ao5 rfl rfl (by omega) (by omega)) (Fa Dl5 rfl (D5 rfl (E5 o3 rfl (by have e : (((r.length : Nat) : Int) - 1).toNat = r.length - 1 := (by omega); rw [e, Dt1]; exact h10) (by simp; done)) ?_)))))
    refine C7 rfl (A9 Ag3 By0 rfl (by rfl)) ?_
    refine Pe Ay0 rfl ‹_› rfl rfl ?_
    intro w20 hs20 hx20 hB1
    have hC := hC.step (hx19.j hx20) (by simp <;> omega)
    have hO := (by exact hO.q hx20 (by intro x hx; simp at hx; left; omega))
    have hI := hI.q hx20 (by intro x hx hf; have hx := Dr4.1 hx; have h1 := hf.1; have h2 := hf.2.1; omega)
    refine Qc (A6 (C8 rfl rfl (A5 Aj7 ‹_› rfl rfl) ?_))
    refine ⟨hC, n6C 4 0 0 0 false _ r.length c' _ _, by unfold n6C; rw [C3]; rfl, Dh4 _ _ _ _ _ _ _ (hO.rd fun z h1 h2 => ⟨by omega, h2, by simp⟩) (hI.mono fun z hz hzl => ⟨by have := hz.1; omega, hzl, by simp⟩)⟩
theorem Shp.low {l : List RTk} {d : Nat → Nat} {a : Nat → Bool} (h : Shp l d a) : ∀ i, i ≤ l.length → d i ≤ i
 | 0, _ => by rw [h.d0]; exact Ds3 _
 | i + 1, hi => by
  have h1 := Shp.low h i (by omega)
  rcases h.st i (by omega) with ⟨_, h2, _⟩ | ⟨_, h2, _⟩ | ⟨_, h2, _⟩ | ⟨_, h2, _⟩ | ⟨_, _, h2, _⟩ <;> omega
theorem ralt_c (l : List RTk) (A : Option Addr) (c : Nat) (size : Int) (f : Nat) (hl : l.length ≤ 100000) (hA : RCatC l A c size f) : RAltC l A c size (f + 1) := by
 intro dd aa D x y F w hS hR hf hF hr
 have hC := A8 [] w
 have hyl := hR.len
 have hxy := hR.le
 have hP : Aw0 l size (f + 1) true x y = Bz7 5 (At2 l (fun i k => Aw0 l size f false i k) y (y + 2 - x) x x 0 []) := rfl
 rw [hP]
 generalize hr0 : At2 l (fun i k => Aw0 l size f false i k) y (y + 2 - x) x x 0 [] = r
 refine D3 Tryz.func120 rfl rfl (Qd (B4 rfl (B6 Ag3 rfl) ?_))
 intro b1 w1 hb1 hs1 hx1 hB1
 have hC := hC.s0 hx1
 have hr := hr.u hx1
 refine Qc (Qd (Zc 1 rfl (Qd (Zc 3 rfl (Qa (Qd (Zc 2 rfl (B0 (D7 (σ := Nat × Nat × Nat × Int × List R6 × List (List Value) × Option Addr × Nat) (fun (g, i, at_, e, o, css, A', c') => [(0, .slice A l.length c), (1, .int .i64 (x : Nat)), (2, .int .i64 (y : Nat)), (3, .int .i64 size), (8, .pointer (some ⟨b1, 0, none⟩)), (9, .slice A' o.length c'), (10, .int .i64 e), (11, .int .i64 (at_ : Nat)), (12, .int .i64 (i : Nat))]) (fun (g, i, at_, e, o, css, A', c') wr => Chg [] w wr ∧ Rd F wr 10 A l.length (S5 l) ∧ Blk wr b1 [.int .i64 0, .int .u64 0, .int .u64 0, .int .u64 0, .int .u64 0, .int .i64 0, .int .i64 0, .bool false, .slice none 0 0, .int .i64 0, .int .i64 0] 140 ∧ Own wr (b1 + 1) 140 11 A' o.length c' (List.flatten css) ∧ N6r (FR (b1 + 1) wr.heap.size (F6 A')) wr o css ∧ At2 l (fun i k => Aw0 l size f false i k) y g i at_ e o = r ∧ o.length ≤ i ∧ y + 1 < i + g ∧ i ≤ y + 1 ∧ (i ≤ y → AtB l dd aa D x y i at_ ∧ e = (dd i : Int) - D) ∧ (i = y + 1 → 1 ≤ o.length)) (fun (g, i, at_, e, o, css, A', c') wr => g) (y + 2 - x, x, x, 0, [], [], none, 0) (sb rfl) ?_ ?_)))))))))
 ·exact ⟨hC, hr, hB1, Own.nil _ _ _ _, by rw [N6r], hr0, Ds0 _, by omega, by omega, fun _ => ⟨⟨Ds3 _, Ds3 _, hxy, hR.dx, hR.ax, fun m h1 h2 => by omega⟩, by rw [hR.dx]; omega⟩, fun h => by omega⟩
 rintro ⟨g, i, at_, e, o, css, A', c'⟩ w9 ⟨hC, hr, hB1, hO, hI, hcl, hol, hfu, hiy, hst, hne⟩
 have hOb := hO.blk
 refine Qa (Qd (Zc 3 rfl (A4 rfl (fun h1 => ?_) (fun h1 => ?_))))
 ·try simp at h1
  have hin : i ≤ y := by omega
  obtain ⟨hat, he⟩ := hst hin
  have hdlow := Shp.low hS i (by omega)
  have hdlowD := Shp.low hS x (by omega)
  rw [hR.dx] at hdlowD
  obtain ⟨g, rfl⟩ : ∃ q, g = q + 1 := ⟨g - 1, by omega⟩
  rw [At2, Dr2 hin] at hcl
  have hcells : i < l.length → ∃ gA off, A = some ⟨gA, off, none⟩ ∧ w9.cell? ⟨gA, off + (i * 10 + 0), none⟩ = some (.int .i64 (rkd l i)) := fun hil => by
   obtain ⟨gA, off, hAe, hFg, hlt, hcell⟩ := hr.at_ (by omega)
   exact ⟨gA, off, hAe, hcell (i * 10 + 0) _ ((L5 l i 0 hil (by omega)).trans rfl)⟩
  refine A7 (Qa (B0 (I1 (fun e9 wr => Sub [(0, .slice A l.length c), (1, .int .i64 (x : Nat)), (2, .int .i64 (y : Nat)), (3, .int .i64 size), (8, .pointer (some ⟨b1, 0, none⟩)), (9, .slice A' o.length c'), (10, .int .i64 (dpR l i y e)), (11, .int .i64 (at_ : Nat)), (12, .int .i64 (i : Nat))] e9 ∧ Chg [] w wr ∧ Rd F wr 10 A l.length (S5 l) ∧ Blk wr b1 [.int .i64 0, .int .u64 0, .int .u64 0, .int .u64 0, .int .u64 0, .int .i64 0, .int .i64 0, .bool false, .slice none 0 0, .int .i64 0, .int .i64 0] 140 ∧ Own wr (b1 + 1) 140 11 A' o.length c' (List.flatten css) ∧ N6r (FR (b1 + 1) wr.heap.size (F6 A')) wr o css) ?_ ?_)))
  ·refine Qd (Zc 3 rfl (A4 rfl (fun h2 => ?_) (fun h2 => ?_)))
   ·try simp at h2
    obtain ⟨gA, off, rfl, hc0⟩ := hcells (by omega)
    refine Qa (Qd (Z 2 rfl (C7 rfl (B9 Ah5 rfl rfl (by omega) (by omega)) (Fa Q4 rfl (Lc o3 rfl hc0 (Z 2 rfl (B7 (d := 29) rfl (fun k1 => ?_) (fun k1 => ?_))))))))
    ·try simp at k1
     have hdp : dpR l i y e = e + 1 := by unfold dpR; rw [Dr2 (by omega), Dr2 (.inl k1)]
     refine Qk rfl (Qk rfl (Qk rfl (Qk rfl (Qk rfl (Qk rfl (Zc 1 rfl (E1 rfl (Qb (Z 1 rfl (Ad rfl rfl (by omega) (Zc 1 rfl (Qd (Z 2 rfl (C7 rfl (B9 Ah5 rfl rfl (by omega) (by omega)) (Fa Q4 rfl (Lc o3 rfl hc0 (Zc 1 rfl (A4 rfl (fun k3 => ?_) (fun k3 => ?_)))))))))))))))))))
     ·try simp at k3
      exfalso
      omega
     ·try simp at k3
      refine A7 ⟨⟨rfl, rfl, rfl, rfl, rfl, rfl, (F9 rfl hdp.symm), rfl, rfl, trivial⟩, ?_⟩
      exact ⟨hC, hr, hB1, hO, hI⟩
    ·try simp at k1
     refine Qu rfl (Z 1 rfl (Qu rfl (Z 1 rfl (Qu rfl (C7 rfl (B9 Ah5 rfl rfl (by omega) (by omega)) (Qu rfl (Fa Q4 rfl (Qu rfl (Lc o3 rfl hc0 (Qu rfl (Zc 2 rfl (A4 rfl (fun k2 => ?_) (fun k2 => ?_)))))))))))))
     ·try simp at k2
      have hdp : dpR l i y e = e + 1 := by unfold dpR; rw [Dr2 (by omega), Dr2 (.inr k2)]
      refine Qb (Z 1 rfl (Ad rfl rfl (by omega) (Zc 1 rfl (Qd (Z 2 rfl (C7 rfl (B9 Ah5 rfl rfl (by omega) (by omega)) (Fa Q4 rfl (Lc o3 rfl hc0 (Zc 1 rfl (A4 rfl (fun k3 => ?_) (fun k3 => ?_)))))))))))
      ·try simp at k3
       exfalso
       omega
      ·try simp at k3
       refine A7 ⟨⟨rfl, rfl, rfl, rfl, rfl, rfl, (F9 rfl hdp.symm), rfl, rfl, trivial⟩, ?_⟩
       exact ⟨hC, hr, hB1, hO, hI⟩
     ·try simp at k2
      refine A7 (Qd (Z 2 rfl (C7 rfl (B9 Ah5 rfl rfl (by omega) (by omega)) (Fa Q4 rfl (Lc o3 rfl hc0 (Zc 1 rfl (A4 rfl (fun k3 => ?_) (fun k3 => ?_))))))))
      ·try simp at k3
       have hdp : dpR l i y e = e - 1 := by unfold dpR; rw [Dr2 (by omega), Dr1 (Dz6.2 ⟨k1, k2⟩), Dr2 k3]
       refine Qb (Z 1 rfl (Su rfl rfl (by omega) (Zc 1 rfl ⟨⟨rfl, rfl, rfl, rfl, rfl, rfl, (F9 rfl hdp.symm), rfl, rfl, trivial⟩, ?_⟩)))
       exact ⟨hC, hr, hB1, hO, hI⟩
      ·try simp at k3
       have hdp : dpR l i y e = e := by unfold dpR; rw [Dr2 (by omega), Dr1 (Dz6.2 ⟨k1, k2⟩), Dr1 k3]
       refine A7 ⟨⟨rfl, rfl, rfl, rfl, rfl, rfl, (F9 rfl hdp.symm), rfl, rfl, trivial⟩, ?_⟩
       exact ⟨hC, hr, hB1, hO, hI⟩
   ·try simp at h2
    have hdp : dpR l i y e = e := by unfold dpR; rw [Dr1 (by omega)]
    refine A7 ⟨⟨rfl, rfl, rfl, rfl, rfl, rfl, (F9 rfl hdp.symm), rfl, rfl, trivial⟩, ?_⟩
    exact ⟨hC, hr, hB1, hO, hI⟩
  rintro e9 w20 ⟨hs9, hC, hr, hB1, hO, hI⟩
  refine I0 _ hs9 ?_
  clear hs9 e9
  have hOb := hO.blk
  try have hlB1 := hB1.lt
  refine Qd (Z 4 rfl (B7 (d := 50) rfl (fun q1 => ?_) (fun q1 => ?_)))
  ·try simp at q1
   have q1' : i = y := by omega
   rw [Dr2 (.inl q1')] at hcl
   refine Qk rfl (Qk rfl (Qk rfl (Qk rfl (Qk rfl (Qk rfl (Qk rfl (G3 rfl rfl rfl rfl (fun h => by cases h) ?_)))))))
   refine G3 rfl rfl rfl rfl (fun h => by cases h) ?_
   refine Qk rfl (Zc 1 rfl (E1 rfl (Qd (Z 5 rfl (Ca fb146 rfl (hA dd aa D at_ i F _ hS (hat.rng hR (by rw [q1']; exact hR.dy)) hat.nb (by have := hat.lo; omega) (fun z hz => by have := hF z hz; omega) ‹_›) ?_)))))
   rintro _ w2 ⟨hx2, cs1, rfl, hm⟩
   have hz2 := hx2.size
   have hone := hm.one1
   generalize Aw0 l size f false at_ i = m at *
   obtain ⟨a0, a1, a2, a3, a4, a5, a6, a7, a8, rfl⟩ := hm.cells
   refine B4 rfl (B5 Ao5 Tryz.underlying138 Ag3 rfl rfl rfl (by rfl)) ?_
   intro b3 w3 hb3 hs3 hx3 hB3
   have hC := hC.s0 (hx2.s0 hx3)
   have hr := hr.u (hx2.s0 hx3)
   have hB1 := hB1.u (hx2.s0 hx3)
   have hO := hO.u (hx2.s0 hx3)
   have hI := hI.u (hx2.s0 hx3)
   have hm := hm.u hx3
   refine G5 rfl el138 rfl rfl hO (Blk.rd (F := fun _ => True) ‹_› rfl trivial) ‹_› (by omega) (by omega) ?_
   intro A2' c2' w4 hO4 hx4 hA2'
   have hC := hC.step hx4 (by intro x h; have := hOb x h; exact .inr (by omega))
   have hr := hr.q hx4 (by intro x hx hf; have := hOb x hx; have := hF x hf; omega)
   have hB1 := hB1.q hx4 (by intro h; have := hOb _ h; omega)
   have hI := hI.q hx4 (by intro x hx hf; exact hf.2.2 hx)
   have hm := hm.q hx4 (by intro x hx hf; have := hOb x hx; have h1 := hf.1; have h2 := hf.2.1; omega)
   replace hO := hO4
   refine Zc 1 rfl (Qb (Z 1 rfl (Ad rfl rfl (by omega) (Zc 1 rfl (Qb (Z 1 rfl (Ad rfl rfl (by omega) (Zc 1 rfl ⟨(g, i + 1, i + 1, dpR l i y e, o ++ [m], css ++ [[a0, a1, a2, a3, a4, a5, a6, a7, a8, .int .i64 m.frm, .int .i64 m.till]], A2', c2'), ⟨rfl, rfl, rfl, rfl, rfl, (S6 rfl (by rw [Dr7]; rfl)), rfl, rfl, rfl, trivial⟩, ?_, ?_⟩))))))))
   refine ⟨hC, hr, hB1, by rw [Dr7, Dy4]; exact hO, N6r.snoc (hI.mono fun z hz hzl => ?_) (hm.mono fun z hz hzl => ?_), hcl, by rw [Dr7]; simp; omega, by omega, by omega, fun h => by omega, fun _ => by rw [Dr7]; simp⟩
   exact ⟨hz.1, hzl, U1 hA2' hz.2.2 (by have := hz.2.1; omega)⟩
   exact ⟨by have := hz.1; omega, hzl, U1 hA2' (fun h => by have := hOb z h; have := hz.1; omega) (by have := hz.2.1; omega)⟩
   show g < g + 1
   omega
  ·try simp at q1
   have hcells : i < l.length → ∃ gA off, A = some ⟨gA, off, none⟩ ∧ w20.cell? ⟨gA, off + (i * 10 + 0), none⟩ = some (.int .i64 (rkd l i)) := fun hil => by
    obtain ⟨gA, off, hAe, hFg, hlt, hcell⟩ := hr.at_ (by omega)
    exact ⟨gA, off, hAe, hcell (i * 10 + 0) _ ((L5 l i 0 hil (by omega)).trans rfl)⟩
   obtain ⟨gA, off, rfl, hc0⟩ := hcells (by omega)
   have hdeep := hat.deep hS hR (by omega) he
   refine Qu rfl (Z 1 rfl (Qu rfl (Z 1 rfl (Qu rfl (C7 rfl (B9 Ah5 rfl rfl (by omega) (by omega)) (Qu rfl (Fa Q4 rfl (Qu rfl (Lc o3 rfl hc0 (Qu rfl (Z 1 rfl (Qu rfl (Z 1 rfl (B7 (d := 57) rfl (fun q2 => ?_) (fun q2 => ?_)))))))))))))))
   ·try simp at q2
    refine Qu rfl (Z 1 rfl (Qu rfl (Z 1 rfl (Qu rfl (Zc 2 rfl (A4 rfl (fun q3 => ?_) (fun q3 => ?_)))))))
    ·try simp at q3
     have hdi : dd i = D := by omega
     rw [Dr2 (.inr ⟨q2, q3⟩)] at hcl
     refine Qd (Z 5 rfl (Ca fb146 rfl (hA dd aa D at_ i F _ hS (hat.rng hR hdi) hat.nb (by have := hat.lo; omega) (fun z hz => by have := hF z hz; omega) ‹_›) ?_))
     rintro _ w5 ⟨hx5, cs1, rfl, hm⟩
     have hz5 := hx5.size
     have hone := hm.one1
     generalize Aw0 l size f false at_ i = m at *
     obtain ⟨a0, a1, a2, a3, a4, a5, a6, a7, a8, rfl⟩ := hm.cells
     refine B4 rfl (B5 Ao5 Tryz.underlying138 Ag3 rfl rfl rfl (by rfl)) ?_
     intro b6 w6 hb6 hs6 hx6 hB6
     have hC := hC.s0 (hx5.s0 hx6)
     have hr := hr.u (hx5.s0 hx6)
     have hB1 := hB1.u (hx5.s0 hx6)
     have hO := hO.u (hx5.s0 hx6)
     have hI := hI.u (hx5.s0 hx6)
     have hm := hm.u hx6
     refine G5 rfl el138 rfl rfl hO (Blk.rd (F := fun _ => True) ‹_› rfl trivial) ‹_› (by omega) (by omega) ?_
     intro A2' c2' w7 hO7 hx7 hA2'
     have hC := hC.step hx7 (by intro x h; have := hOb x h; exact .inr (by omega))
     have hr := hr.q hx7 (by intro x hx hf; have := hOb x hx; have := hF x hf; omega)
     have hB1 := hB1.q hx7 (by intro h; have := hOb _ h; omega)
     have hI := hI.q hx7 (by intro x hx hf; exact hf.2.2 hx)
     have hm := hm.q hx7 (by intro x hx hf; have := hOb x hx; have h1 := hf.1; have h2 := hf.2.1; omega)
     replace hO := hO7
     refine Zc 1 rfl (Qb (Z 1 rfl (Ad rfl rfl (by omega) (Zc 1 rfl (Qb (Z 1 rfl (Ad rfl rfl (by omega) (Zc 1 rfl ⟨(g, i + 1, i + 1, dpR l i y e, o ++ [m], css ++ [[a0, a1, a2, a3, a4, a5, a6, a7, a8, .int .i64 m.frm, .int .i64 m.till]], A2', c2'), ⟨rfl, rfl, rfl, rfl, rfl, (S6 rfl (by rw [Dr7]; rfl)), rfl, rfl, rfl, trivial⟩, ?_, ?_⟩))))))))
     refine ⟨hC, hr, hB1, by rw [Dr7, Dy4]; exact hO, N6r.snoc (hI.mono fun z hz hzl => ?_) (hm.mono fun z hz hzl => ?_), hcl, by rw [Dr7]; simp; omega, by omega, by omega, fun h => ⟨hat.cut (by omega) (by have := (hdeep.2 q2).1; omega) (hdeep.2 q2).2, hdeep.1⟩, fun _ => by rw [Dr7]; simp⟩
     exact ⟨hz.1, hzl, U1 hA2' hz.2.2 (by have := hz.2.1; omega)⟩
     exact ⟨by have := hz.1; omega, hzl, U1 hA2' (fun h => by have := hOb z h; have := hz.1; omega) (by have := hz.2.1; omega)⟩
     show g < g + 1
     omega
    ·try simp at q3
     rw [Dr1 (by intro h; rcases h with h | h; exact q1 (by omega); exact q3 h.2)] at hcl
     refine A7 (Qb (Z 1 rfl (Ad rfl rfl (by omega) (Zc 1 rfl ⟨(g, i + 1, at_, dpR l i y e, o, css, A', c'), sb rfl, ?_, ?_⟩))))
     refine ⟨hC, hr, hB1, hO, hI, hcl, by omega, by omega, by omega, fun h => ⟨hat.next (by omega) fun hh => q3 (by have := (hdeep.2 q2).1; omega), hdeep.1⟩, fun h => by omega⟩
     show g < g + 1
     omega
   ·try simp at q2
    rw [Dr1 (by intro h; rcases h with h | h; exact q1 (by omega); exact q2 h.1)] at hcl
    refine Qk rfl (Qk rfl (Qu rfl (Zc 2 rfl (E3 rfl (A7 (Qb (Z 1 rfl (Ad rfl rfl (by omega) (Zc 1 rfl ⟨(g, i + 1, at_, dpR l i y e, o, css, A', c'), sb rfl, ?_, ?_⟩)))))))))
    refine ⟨hC, hr, hB1, hO, hI, hcl, by omega, by omega, by omega, fun h => ⟨hat.next (by omega) fun hh => q2 hh.1, hdeep.1⟩, fun h => by omega⟩
    show g < g + 1
    omega
 ·try simp at h1
  have hii : i = y + 1 := by omega
  have hne1 := hne hii
  have hro : r = o := by
   rw [← hcl]
   cases g with
   | zero => rfl
   | succ g => rw [At2, Dr1 (by omega)]
  subst hro
  refine Xb (Qa (Qd (Z 1 rfl (Ln Tryz.underlying138 rfl (Zc 1 rfl (A4 rfl (fun q1 => ?_) (fun q1 => ?_)))))))
  ·try simp at q1
   have q1' : r.length = 1 := by omega
   obtain ⟨n, cs, rfl, rfl, hn⟩ := hI.one q1'
   have hone := hn.one1
   obtain ⟨a0, a1, a2, a3, a4, a5, a6, a7, a8, rfl⟩ := hn.cells
   obtain ⟨g9, o9, rfl, _, _, hcell9⟩ := (hO.rd (F := fun _ => True) (fun _ _ _ => trivial)).at_ (by omega)
   refine Qd (Z 1 rfl (C7 rfl (B9 Ao5 rfl rfl (by omega) (by omega)) (C7 rfl (E4 (vs := [a0, a1, a2, a3, a4, a5, a6, a7, a8, .int .i64 n.frm, .int .i64 n.till]) Aj7 rfl (E9 _) (fun j v hj => hcell9 j v (by simpa using hj)) rfl) ?_)))
   refine Pb (cs' := [a0, a1, a2, a3, a4, a5, a6, a7, a8, .int .i64 n.frm, .int .i64 n.till]) Ay0 rfl rfl hB1 rfl rfl hone rfl rfl ?_
   intro w8 hs8 hx8 hB1
   have hC := hC.step hx8 (by simp; omega)
   have hn := hn.q hx8 (by intro x hx hf; have hx := Dr4.1 hx; have h1 := hf.1; have h2 := hf.2.1; omega)
   refine Qc (A6 (C8 rfl rfl (A5 Aj7 ‹_› rfl rfl) ?_))
   refine ⟨hC, _, rfl, hn.mono fun z hz hzl => ⟨by have := hz.1; omega, hzl, by simp⟩⟩
  ·try simp at q1
   have q1' : ¬ r.length = 1 := by omega
   unfold Bz7
   rw [Dr1 q1']
   refine A7 (Qa (C6 (S := []) 12 [(0, 0), (0, 1), (0, 2), (0, 3), (0, 4), (0, 5), (0, 6), (0, 7), (0, 8), (0, 9), (0, 10), (0, 11), (2, 12), (2, 13)] mo (by kernel_rfl) ?_))
   intro w9 hx9 hh9
   have hB1 := hB1.u hx9
   have hO := hO.u hx9
   have hI := hI.u hx9
   have hcell9 := (hO.rd (F := fun _ => True) (fun _ _ _ => trivial)).at_ (by omega)
   obtain ⟨g9, o9, rfl, _, _, hcell9⟩ := hcell9
   have h9 := hcell9 (0 * 11 + 9) _ (hI.row 0 (by omega) 9 _ (hI.get 0 (by omega)).ends.1)
   have h10 := hcell9 ((r.length - 1) * 11 + 10) _ (hI.row (r.length - 1) (by omega) 10 _ (hI.get (r.length - 1) (by omega)).ends.2)
   refine Z 2 rfl (D5 rfl (B9 Ao5 rfl rfl (by omega) (by omega)) (Fa Cj3 rfl (D5 rfl (E5 o3 rfl h9 (by simp; done)) ?_)))
   refine Z 2 rfl (Ln Tryz.underlying138 rfl (Su rfl rfl (by omega) (D5 rfl (B9 Ao5 rfl rfl (by omega) (by omega)) (Fa Dl5 rfl (D5 rfl (E5 o3 rfl (by have e : (((r.length : Nat) : Int) - 1).toNat = r.length - 1 := (by omega); rw [e, Dt1]; exact h10) (by simp; done)) ?_)))))
   refine C7 rfl (A9 Ag3 By0 rfl (by rfl)) ?_
   refine Pe Ay0 rfl ‹_› rfl rfl ?_
   intro w10 hs10 hx10 hB1
   have hC := hC.step (hx9.j hx10) (by simp <;> omega)
   have hO := (by exact hO.q hx10 (by intro x hx; simp at hx; left; omega))
   have hI := hI.q hx10 (by intro x hx hf; have hx := Dr4.1 hx; have h1 := hf.1; have h2 := hf.2.1; omega)
   refine Qc (A6 (C8 rfl rfl (A5 Aj7 ‹_› rfl rfl) ?_))
   refine ⟨hC, n6C 5 0 0 0 false _ r.length c' _ _, by unfold n6C; rw [C3]; rfl, Dh4 _ _ _ _ _ _ _ (hO.rd fun z h1 h2 => ⟨by omega, h2, by simp⟩) (hI.mono fun z hz hzl => ⟨by have := hz.1; omega, hzl, by simp⟩)⟩
theorem Bp6 (l : List RTk) (A : Option Addr) (c : Nat) (size : Int) (hl : l.length ≤ 100000) : ∀ f, RCatC l A c size f ∧ RAltC l A c size f
 | 0 => ⟨fun dd aa D x y F w _ _ _ h => absurd h (by omega), fun dd aa D x y F w _ _ h => absurd h (by omega)⟩
 | f + 1 => ⟨rcat_c l A c size f hl (Bp6 l A c size hl f).2, ralt_c l A c size f hl (Bp6 l A c size hl f).1⟩
theorem Dh3 (F : Nat → Prop) (w : World) : N6 F w default [.int .i64 0, .int .u64 0, .int .u64 0, .int .u64 0, .int .u64 0, .int .i64 0, .int .i64 0, .bool false, .slice none 0 0, .int .i64 0, .int .i64 0] := by
 have h := Ch0 (F := F) (w := w) 0 0 0 0
 unfold n6C at h
 rw [C3] at h
 exact h
theorem De8 (s : ByteArray) (hs : s.size ≤ 1000) (w : World) : Calls P 88 #[.string s] w (Ret fun u w' => Chg [] w w' ∧ ∃ cs, u = .tuple #[.agg cs.toArray, endV (O4 (C2 s)).2] ∧ N6 (FR w.heap.size w'.heap.size []) w' (O4 (C2 s)).1 cs) := by
 have hC := A8 [] w
 have hsl := E7 s
 have hlt := W5 s
 have hll := Bj8 (C2 s) hlt
 have hkd := rkd_ok (C2 s)
 have hP : O4 (C2 s) = if (M5 (C2 s)).2.2 ≠ 0 then (default, (M5 (C2 s)).2) else if (Bp7 (M5 (C2 s)).1 (C2 s).length).2 ≠ 0 then (default, Bp7 (M5 (C2 s)).1 (C2 s).length) else (Aw0 (M5 (C2 s)).1 (C2 s).length (2 * (M5 (C2 s)).1.length + 2) true 0 (M5 (C2 s)).1.length, 0, 0) := rfl
 generalize O4 (C2 s) = r at *
 refine D3 Tryz.func88 rfl rfl (Qd (B4 rfl (B6 Ag3 rfl) ?_))
 intro b1 w1 hb1 hs1 hx1 hB1
 refine B4 rfl (B6 Ax8 rfl) ?_
 intro b2 w2 hb2 hs2 hx2 hB2
 refine Qc (Qd (Z 1 rfl (Ca fb118 rfl (rscan_c s hs _) ?_)))
 rintro _ w3 ⟨hx3, A, c, rfl, hr'⟩
 have hz3 := hx3.size
 have hC := hC.s0 ((hx1.s0 hx2).s0 hx3)
 have hB1 := hB1.u (hx2.s0 hx3)
 have hB2 := hB2.u hx3
 have hr := hr'; clear hr'
 generalize M5 (C2 s) = T at *
 rw [hsl] at hP
 obtain ⟨T, p, e⟩ := T
 simp only [] at hP hll hkd hr
 refine Zc 7 rfl (Qa (Qd (Zc 2 rfl (A4 rfl (fun e1 => ?_) (fun e1 => ?_)))))
 ·try simp at e1
  rw [Dr2 e1] at hP
  subst hP
  refine Qd (C7 rfl (A9 Ag3 By0 rfl (by rfl)) ?_)
  refine Z 2 rfl (C7 rfl (A9 Ax8 Bx9 rfl (by rfl)) ?_)
  refine Pe Ay0 rfl ‹_› rfl rfl ?_
  intro w4 hs4 hx4 hB1
  have hB2 := hB2.q hx4 (by simp; omega)
  refine Pe Az9 rfl ‹_› rfl rfl ?_
  intro w5 hs5 hx5 hB2
  have hC := hC.step (hx4.j hx5) (by simp <;> omega)
  have hB1 := hB1.q hx5 (by simp; omega)
  refine Qc (A6 (C5 rfl rfl (A5 Aj7 ‹_› rfl rfl) rfl (A5 Bi4 ‹_› rfl rfl) ?_))
  exact ⟨hC, _, rfl, Dh3 _ _⟩
 ·try simp at e1
  rw [Dr1 (by simpa using e1)] at hP
  refine A7 (Qd (Z 2 rfl (C7 rfl (F4 Tryz.underlying9 rfl) (Ca fb119 rfl (rfirst_c T s.size _ A c (by omega) _ (fun z (hz : FR w2.heap.size w3.heap.size [] z) => by have := hz.2.1; omega) ‹_›) ?_))))
  rintro _ w6 ⟨hx6, rfl⟩
  have hz6 := hx6.size
  have hsh := Bb0 (size := (s.size : Int)) hkd
  generalize Bp7 T (s.size : Nat) = q at *
  obtain ⟨q1, q2⟩ := q
  refine B4 rfl (B6 Ax8 rfl) ?_
  intro b7 w7 hb7 hs7 hx7 hB7
  have hr := hr.u (hx6.s0 hx7)
  refine Pe Az9 rfl ‹_› rfl rfl ?_
  intro w8 hs8 hx8 hB7
  have hC := hC.step ((hx6.j hx7).j hx8) (by simp <;> omega)
  have hB1 := hB1.q ((hx6.j hx7).j hx8) (by simp <;> omega)
  have hB2 := hB2.q ((hx6.j hx7).j hx8) (by simp <;> omega)
  have hr := hr.q hx8 (by intro x hx hf; have hx := Dr4.1 hx; have h1 := hf.1; have h2 := hf.2.1; omega)
  refine Qc (Qa (Qd (Fa Cj2 rfl (Lb o3 rfl ‹_› (by rfl) ?_))))
  refine Zc 1 rfl (A4 rfl (fun e2 => ?_) (fun e2 => ?_))
  ·try simp at e2
   rw [Dr2 e2] at hP
   subst hP
   refine Qa (C6 (S := [b1]) 3 [(0, 0), (0, 1), (1, 2), (2, 3)] mo (by kernel_rfl) ?_)
   intro w9 hx9 hh9
   have hB1 := hB1.u hx9
   have hB7 := hB7.u hx9
   have hCS9 := A8 ([b1]) w9
   refine D5 rfl (A9 Ag3 By0 rfl (by rfl)) ?_
   refine D5 rfl (B8 Bi4 rfl ‹_› (by simp; omega) rfl rfl) ?_
   refine H1 (F8 Ay0 rfl rfl ‹_› rfl rfl rfl rfl rfl) ?_
   intro w10 hs10 hx10 hB1
   have hB2 := hB2.q (hx9.j hx10) (by simp <;> omega)
   have hCS9 := hCS9.step hx10 (by simp; done)
   refine ⟨hCS9, ?_⟩
   refine Pe Az9 rfl ‹_› rfl rfl ?_
   intro w11 hs11 hx11 hB2
   have hC := hC.step ((hx9.j hx10).j hx11) (by simp <;> omega)
   have hB1 := hB1.q hx11 (by simp; omega)
   refine Qc (A6 (C5 rfl rfl (A5 Aj7 ‹_› rfl rfl) rfl (A5 Bi4 ‹_› rfl rfl) ?_))
   exact ⟨hC, _, rfl, Dh3 _ _⟩
  ·try simp at e2
   have e2' : q2 = 0 := by simpa using e2
   rw [Dr1 (by simp [e2'])] at hP
   subst hP
   have hS := hsh e2'
   refine A7 (Qd (Z 2 rfl (Ln Tryz.underlying187 rfl (Z 1 rfl (C7 rfl (F4 Tryz.underlying9 rfl) (Ca fb120 rfl ((Bp6 T A c s.size (by omega) (2 * T.length + 2)).2 _ _ 0 0 T.length _ _ hS hS.all (by omega) (fun z (hz : FR w2.heap.size w3.heap.size [] z) => by have := hz.2.1; omega) ‹_›) ?_))))))
   rintro _ w12 ⟨hx12, cs, rfl, hn⟩
   have hB1 := hB1.u hx12
   have hone := hn.one1
   obtain ⟨a0, a1, a2, a3, a4, a5, a6, a7, a8, rfl⟩ := hn.cells
   refine C7 rfl (A9 Ax8 Bx9 rfl (by rfl)) ?_
   refine Pb (cs' := [a0, a1, a2, a3, a4, a5, a6, a7, a8, .int .i64 (Aw0 T (↑s.size) (2 * T.length + 2) true 0 T.length).frm, .int .i64 (Aw0 T (↑s.size) (2 * T.length + 2) true 0 T.length).till]) Ay0 rfl rfl hB1 rfl rfl hone rfl rfl ?_
   intro w13 hs13 hx13 hB1
   have hB2 := hB2.q (hx12.j hx13) (by simp <;> omega)
   have hn := hn.q hx13 (by intro x hx hf; have hx := Dr4.1 hx; have h1 := hf.1; have h2 := hf.2.1; omega)
   refine Pe Az9 rfl ‹_› rfl rfl ?_
   intro w14 hs14 hx14 hB2
   have hC := hC.step ((hx12.j hx13).j hx14) (by simp <;> omega)
   have hB1 := hB1.q hx14 (by simp; omega)
   have hn := hn.q hx14 (by intro x hx hf; have hx := Dr4.1 hx; have h1 := hf.1; have h2 := hf.2.1; omega)
   refine Qc (A6 (C5 rfl rfl (A5 Aj7 ‹_› rfl rfl) rfl (A5 Bi4 ‹_› rfl rfl) ?_))
   exact ⟨hC, _, rfl, hn.mono fun z hz hzl => ⟨by have := hz.1; omega, hzl, by simp⟩⟩
def K6 (k mn mx : Int) (n : Nat) : Prop := (k = 0 ∧ n = 0) ∨ (k = 1 ∧ n = 0) ∨ ((k = 2 ∨ k = 3) ∧ n = 1) ∨ ((k = 4 ∨ k = 5) ∧ 1 ≤ n ∧ n ≤ 200000) ∨ (k = 6 ∧ n = 1 ∧ 0 ≤ mn ∧ mn ≤ 1000 ∧ -1 ≤ mx ∧ mx ≤ 1000)
mutual
def G6 : R6 → Prop
 | .node k _ mn mx _ l _ _ => K6 k mn mx l.length ∧ G6s l
def G6s : List R6 → Prop
 | [] => True
 | t :: r => G6 t ∧ G6s r
end
theorem Dq2 {l : List R6} (h : ∀ t ∈ l, G6 t) : G6s l := by
 induction l with
 | nil => rw [G6s]; trivial
 | cons t r ih => rw [G6s]; exact ⟨h t (Du2 ..), ih fun x hx => h x (Dv9 _ hx)⟩
def TokB (l : List RTk) : Prop := ∀ i, 0 ≤ (l.getD i default).mn ∧ (l.getD i default).mn ≤ 1000 ∧ -1 ≤ (l.getD i default).mx ∧ (l.getD i default).mx ≤ 1000
theorem Bz5 {l : List RTk} {alt : Nat → Nat → R6} {i : Nat} (hk : rkd l i = 0 ∨ ((rkd l i = 1 ∨ rkd l i = 2) ∧ G6 (alt (i + 1) (Av8 l (i + 1)).toNat))) : G6 (Cq5 l alt i).1 := by
 unfold Cq5
 rcases hk with h | ⟨h, hg⟩
 ·rw [Dr2 h, G6]
  exact ⟨.inr (.inl ⟨rfl, rfl⟩), by rw [G6s]; trivial⟩
 ·rw [Dr1 (by omega), G6]
  exact ⟨.inr (.inr (.inl ⟨by omega, rfl⟩)), Dq2 fun t ht => by rw [Dr4] at ht; subst ht; exact hg⟩
theorem Cu9 {l : List RTk} {to : Nat} {x : R6 × Nat} (hB : TokB l) (h : G6 x.1) : G6 (Ay1 l to x).1 := by
 unfold Ay1
 split
 ·show G6 (cntN _ _)
  unfold cntN
  rw [G6]
  obtain ⟨h1, h2, h3, h4⟩ := hB x.2
  exact ⟨.inr (.inr (.inr (.inr ⟨rfl, rfl, h1, h2, h3, h4⟩))), Dq2 fun t ht => by rw [Dr4] at ht; subst ht; exact h⟩
 ·exact h
theorem Bl7 {k : Int} {o : List R6} (hk : k = 4 ∨ k = 5) (h : ∀ t ∈ o, G6 t) (h1 : 1 ≤ o.length) (h2 : o.length ≤ 200000) : G6 (Bz7 k o) := by
 unfold Bz7
 split
 ·match o, h1 with
  | t :: r, _ => exact h t (Du2 ..)
 ·rw [G6]
  exact ⟨.inr (.inr (.inr (.inl ⟨hk, h1, h2⟩))), Dq2 h⟩
theorem Bk1 {l : List RTk} {dd : Nat → Nat} {aa : Nat → Bool} {D x y : Nat} {alt : Nat → Nat → R6} (hl : l.length ≤ 100000) (hB : TokB l) (hS : Shp l dd aa) (hR : Rng l dd aa D x y) (hN : Da9 l dd D x y) (ha : ∀ i k, x ≤ i → k < y → Rng l dd aa (D + 1) (i + 1) k → G6 (alt (i + 1) k)) : ∀ (f i : Nat) (o : List R6), AtI l dd aa D x y i → (∀ t ∈ o, G6 t) → o.length ≤ i → (∀ t ∈ Ay2 l alt y f i o, G6 t) ∧ (Ay2 l alt y f i o).length ≤ max i y
 | 0, i, o, _, ho, hol => by rw [Ay2]; exact ⟨ho, by omega⟩
 | f + 1, i, o, hat, ho, hol => by
  rw [Ay2]
  split
  ·rename_i hin
   have hyl := hR.len
   have hlo := hat.lo
   have hkd := hat.kind hS hR hN hin
   have hg : G6 (Cq5 l alt i).1 ∧ ∃ j, (Cq5 l alt i).2 = j ∧ i < j ∧ j ≤ y ∧ dd j = D := by
    rcases hkd with h | h
    ·refine ⟨Bz5 (.inl h.1), i + 1, ?_, by omega, by omega, h.2.1⟩
     unfold Cq5
     rw [Dr2 h.1]
    ·obtain ⟨k, hk1, hk2, hk3, hk4, hk5, hkr⟩ := hR.group hS hat.lo hin hat.di h
     have := hkr.le
     refine ⟨Bz5 (.inr ⟨h, ?_⟩), k + 1, ?_, by omega, by omega, hk4⟩
     ·rw [hk1]; exact ha i k hlo hk2 hkr
     ·unfold Cq5
      rw [Dr1 (by omega), hk1]
      rfl
   obtain ⟨hg1, j, hj, hij, hjy, hdj⟩ := hg
   have hg2 := Cu9 (to := y) hB hg1
   have hst : AtI l dd aa D x y (Ay1 l y (Cq5 l alt i)).2 ∧ i < (Ay1 l y (Cq5 l alt i)).2 := by
    unfold Ay1
    split
    ·rename_i h
     rw [hj] at h ⊢
     exact ⟨AtI.more hS hR (by omega) h.1 hdj h.2, by show i < j + 1; omega⟩
    ·rename_i h
     rw [hj] at h ⊢
     exact ⟨⟨by omega, hjy, hdj, .inr fun h1 h2 => h ⟨h1, h2⟩⟩, hij⟩
   have := Bk1 hl hB hS hR hN ha f _ (o ++ [(Ay1 l y (Cq5 l alt i)).1]) hst.1 (fun t ht => by
    rcases Dv0.1 ht with h | h
    ·exact ho t h
    ·rw [Dr4] at h; subst h; exact hg2) (by rw [Dr7]; simp; omega)
   refine ⟨this.1, Du7 this.2 ?_⟩
   have := hst.1.hi
   omega
  ·exact ⟨ho, by omega⟩
theorem At1 {l : List RTk} {dd : Nat → Nat} {aa : Nat → Bool} {D x y : Nat} {cat : Nat → Nat → R6} (hS : Shp l dd aa) (hR : Rng l dd aa D x y) (hc : ∀ a b, x ≤ a → b ≤ y → Rng l dd aa D a b → Da9 l dd D a b → G6 (cat a b)) : ∀ (f i at_ : Nat) (e : Int) (o : List R6), y + 1 < i + f → i ≤ y + 1 → (i ≤ y → AtB l dd aa D x y i at_ ∧ e = (dd i : Int) - D) → (i = y + 1 → 1 ≤ o.length) → (∀ t ∈ o, G6 t) → o.length ≤ i → (∀ t ∈ At2 l cat y f i at_ e o, G6 t) ∧ 1 ≤ (At2 l cat y f i at_ e o).length ∧ (At2 l cat y f i at_ e o).length ≤ y + 1
 | 0, i, at_, e, o, hf, hi, _, _, _, _ => by omega
 | f + 1, i, at_, e, o, hf, hi, hst, hne, ho, hol => by
  rw [At2]
  split
  ·rename_i hin
   obtain ⟨hat, he⟩ := hst hin
   have hmem : ∀ u, G6 u → ∀ t ∈ o ++ [u], G6 t := fun u hu t ht => by
    rcases Dv0.1 ht with h | h
    ·exact ho t h
    ·rw [Dr4] at h; subst h; exact hu
   split
   ·rename_i h
    have hdi : dd i = D := by
     rcases h with h | h
     ·rw [h]; exact hR.dy
     ·by_cases hiy : i = y
      ·rw [hiy]; exact hR.dy
      ·have hd := hat.deep hS hR (by omega) he
       have := (hd.2 h.1).1
       have := hd.1
       omega
    refine At1 hS hR hc f (i + 1) (i + 1) _ _ (by omega) (by omega) (fun hi1 => ?_) (fun _ => by rw [Dr7]; simp) (hmem _ (hc at_ i hat.lo hin (hat.rng hR hdi) hat.nb)) (by rw [Dr7]; simp; omega)
    have hd := hat.deep hS hR (by omega) he
    rcases h with h | h
    ·omega
    ·exact ⟨hat.cut (by omega) (by have := (hd.2 h.1).1; omega) (hd.2 h.1).2, hd.1⟩
   ·rename_i h
    have hiy : i ≠ y := fun h2 => h (.inl h2)
    have hd := hat.deep hS hR (by omega) he
    refine At1 hS hR hc f (i + 1) at_ _ o (by omega) (by omega) (fun hi1 => ⟨hat.next (by omega) fun hh => h (.inr ⟨hh.1, by have := (hd.2 hh.1).1; omega⟩), hd.1⟩) (fun h2 => by omega) ho (by omega)
  ·exact ⟨ho, hne (by omega), by omega⟩
theorem Bb9 {l : List RTk} {dd : Nat → Nat} {aa : Nat → Bool} (size : Int) (hl : l.length ≤ 100000) (hB : TokB l) (hS : Shp l dd aa) : ∀ (f D x y : Nat), Rng l dd aa D x y → (2 * (y - x) + 1 < f → G6 (Aw0 l size f true x y)) ∧ (Da9 l dd D x y → 2 * (y - x) < f → G6 (Aw0 l size f false x y))
 | 0, D, x, y, hR => ⟨fun h => by omega, fun _ h => by omega⟩
 | f + 1, D, x, y, hR => by
  have hyl := hR.len
  have hxy := hR.le
  refine ⟨fun hf => ?_, fun hN hf => ?_⟩
  ·show G6 (Bz7 5 (At2 l (fun a b => Aw0 l size f false a b) y (y + 2 - x) x x 0 []))
   have := At1 (cat := fun a b => Aw0 l size f false a b) hS hR (fun a b h1 h2 hr hn => (Bb9 size hl hB hS f D a b hr).2 hn (by omega)) (y + 2 - x) x x 0 [] (by omega) (by omega) (fun _ => ⟨⟨Ds3 _, Ds3 _, hxy, hR.dx, hR.ax, fun m h1 h2 => by omega⟩, by rw [hR.dx]; omega⟩) (fun h => by omega) (fun t ht => by cases ht) (Ds0 _)
   exact Bl7 (.inr rfl) this.1 this.2.1 (by omega)
  ·show G6 (catE l size x (Ay2 l (fun a b => Aw0 l size f true a b) y (y + 1 - x) x []))
   have := Bk1 (alt := fun a b => Aw0 l size f true a b) hl hB hS hR hN (fun i k h1 h2 hr => (Bb9 size hl hB hS f (D + 1) (i + 1) k hr).1 (by have := hr.le; omega)) (y + 1 - x) x [] ⟨Ds3 _, hxy, hR.dx, .inl hR.ax⟩ (fun t ht => by cases ht) (Ds0 _)
   unfold catE
   split
   ·rw [G6]
    exact ⟨.inl ⟨rfl, rfl⟩, by rw [G6s]; trivial⟩
   ·rename_i h
    exact Bl7 (.inl rfl) this.1 (by omega) (by have := this.2; omega)
theorem Aa7 (L : List Nat) (t : RTk) (e : Int × Int) : (Da0 L t e).1.mn = t.mn ∧ (Da0 L t e).1.mx = t.mx := by
 unfold Da0
 split
 ·exact ⟨rfl, rfl⟩
 ·dsimp only
  split <;> exact ⟨rfl, rfl⟩
theorem Au8 (L : List Nat) (m n : Int) (i : Nat) (h : 0 ≤ m ∧ m ≤ 1000 ∧ -1 ≤ n ∧ n ≤ 1000) : 0 ≤ (N3 L m n i).1 ∧ (N3 L m n i).1 ≤ 1000 ∧ -1 ≤ (N3 L m n i).2.1 ∧ (N3 L m n i).2.1 ≤ 1000 := by
 unfold N3
 split
 ·simp
 ·exact h
theorem Cl8 (L : List Nat) (hL : ∀ b ∈ L, b < 256) (at_ : Nat) : 0 ≤ (P4 L at_).1 ∧ (P4 L at_).1 ≤ 1000 ∧ -1 ≤ (P4 L at_).2.1 ∧ (P4 L at_).2.1 ≤ 1000 := by
 obtain ⟨h1, h2, _⟩ := P6 L hL at_
 unfold P4
 dsimp only
 split
 ·exact ⟨by simp, by simp, by simp, by simp⟩
 split
 ·split
  ·obtain ⟨h3, h4, _⟩ := P6 L hL ((J5 L at_).2.1.toNat + 1)
   split
   ·exact ⟨by simp, by simp, by simp, by simp⟩
   split
   ·exact ⟨by simp, by simp, by simp, by simp⟩
   ·exact Au8 _ _ _ _ ⟨h1, h2, by omega, h4⟩
  ·exact Au8 _ _ _ _ ⟨h1, h2, by omega, by omega⟩
 ·exact Au8 _ _ _ _ ⟨h1, h2, by omega, h2⟩
def TB1 (t : RTk) : Prop := 0 ≤ t.mn ∧ t.mn ≤ 1000 ∧ -1 ≤ t.mx ∧ t.mx ≤ 1000
theorem oneR_bnd (L : List Nat) (hL : ∀ b ∈ L, b < 256) (i : Nat) : TB1 (Cg6 L i).1 := by
 unfold Cg6 TB1
 dsimp only
 by_cases h1 : L.getD i 0 = 92
 ·rw [Dr2 h1]; simp
 rw [Dr1 h1]
 by_cases h2 : L.getD i 0 = 91
 ·rw [Dr2 h2]; simp
 rw [Dr1 h2]
 by_cases h3 : L.getD i 0 = 40
 ·rw [Dr2 h3]
  split <;> simp
 rw [Dr1 h3]
 by_cases h4 : L.getD i 0 = 41
 ·rw [Dr2 h4]; simp
 rw [Dr1 h4]
 by_cases h5 : L.getD i 0 = 124
 ·rw [Dr2 h5]; simp
 rw [Dr1 h5]
 by_cases h6 : L.getD i 0 = 46
 ·rw [Dr2 h6]; simp
 rw [Dr1 h6]
 by_cases h7 : L.getD i 0 = 94 ∨ L.getD i 0 = 36
 ·rw [Dr2 h7]; simp
 rw [Dr1 h7]
 by_cases h8 : L.getD i 0 = 93 ∨ L.getD i 0 = 125
 ·rw [Dr2 h8]; simp
 rw [Dr1 h8]
 by_cases h9 : L.getD i 0 ∉ C2 cntT
 ·rw [Dr2 h9]; simp
 rw [Dr1 h9]
 split
 ·rw [(Aa7 _ _ _).1, (Aa7 _ _ _).2]; simp
 split
 ·rw [(Aa7 _ _ _).1, (Aa7 _ _ _).2]; simp
 split
 ·rw [(Aa7 _ _ _).1, (Aa7 _ _ _).2]; exact Cl8 L hL (i + 1)
 ·rw [(Aa7 _ _ _).1, (Aa7 _ _ _).2]; simp
theorem Bk0 (L : List Nat) (hL : ∀ b ∈ L, b < 256) : ∀ (f i : Nat) (l : List RTk), (∀ t ∈ l, TB1 t) → ∀ t ∈ (Aa1 L f i l).1, TB1 t
 | 0, i, l, h => by rw [Aa1]; exact h
 | f + 1, i, l, h => by
  rw [Aa1]
  split
  ·simp only []
   split
   ·intro t ht; cases ht
   ·refine Bk0 L hL f _ _ fun t ht => ?_
    rcases Dv0.1 ht with h1 | h1
    ·exact h t h1
    ·rw [Dr4] at h1
     subst h1
     exact oneR_bnd L hL i
  ·exact h
theorem Cf6 (L : List Nat) (hL : ∀ b ∈ L, b < 256) : TokB (M5 L).1 := fun i => by
 by_cases hi : i < (M5 L).1.length
 ·rw [Dr3, Dr5 hi]
  exact Bk0 L hL _ 0 [] (fun t ht => by cases ht) _ (List.getElem_mem hi)
 ·rw [Dr3, Dt3 (by omega)]
  exact ⟨by decide, by decide, by decide, by decide⟩
theorem Av7 (L : List Nat) (hL : ∀ b ∈ L, b < 256) (hl : L.length ≤ 1000) (h : (O4 L).2.2 = 0) : G6 (O4 L).1 := by
 have hlen := Bj8 L hL
 unfold O4 at h ⊢
 split at h
 ·rename_i h1; exact absurd h h1
 rename_i h1
 rw [Dr1 h1]
 split at h
 ·rename_i h2; exact absurd h h2
 rename_i h2
 rw [Dr1 h2]
 have hS := Bb0 (rkd_ok L) (by simpa using h2)
 exact (Bb9 _ (by omega) (Cf6 L hL) hS _ 0 0 _ hS.all).1 (by omega)
def R0 (k : Int) : List R8 → R8
 | [] => default
 | [a] => a
 | a :: b :: r => Ac6 k a (R0 k (b :: r))
def optR (lz : Bool) (x : R8) : R8 := if lz then Ac6 3 default x else Ac6 3 x default
def S3 (r : R8) (lz : Bool) : Nat → R8
 | 0 => optR lz r
 | n + 1 => optR lz (Ac6 2 r (S3 r lz n))
def Bh5 (mn mx : Int) (lz : Bool) (l : List R8) : List R8 := if mx = -1 then [.node 4 0 lz l] else if mn < mx then [S3 (l.getD 0 default) lz ((mx - mn).toNat - 1)] else []
def Af5 (k : Int) (s : Nat) (mn mx : Int) (lz : Bool) (l : List R8) : R8 :=
 if k = 0 then default else if k = 1 then .node 1 s false [] else if k = 2 ∨ k = 3 then l.getD 0 default else if k = 4 then R0 2 l else if k = 5 then R0 3 l
 else R0 2 (List.replicate mn.toNat (l.getD 0 default) ++ Bh5 mn mx lz l)
mutual
def Ar3 : R6 → R8
 | .node k s mn mx lz l _ _ => Af5 k s mn mx lz (U0 l)
def U0 : List R6 → List R8
 | [] => []
 | t :: r => Ar3 t :: U0 r
end
mutual
def szR : R6 → Nat
 | .node k _ mn mx _ l _ _ => if k < 2 then 1 else if k = 6 then
   (if mn.toNat + (if mx = -1 then 1 else 0) + (if mn < mx then 1 else 0) = 0 then 1 else
    mn.toNat * Az8 l + (if mx = -1 then Az8 l + 1 else 0) + (if mn < mx then (mx - mn).toNat * (Az8 l + 2) + ((mx - mn).toNat - 1) else 0) + (mn.toNat + (if mx = -1 then 1 else 0) + (if mn < mx then 1 else 0) - 1))
   else Az8 l + (l.length - 1)
def Az8 : List R6 → Nat
 | [] => 0
 | t :: r => szR t + Az8 r
end
mutual
def n8s : R8 → Nat
 | .node _ _ _ l => 1 + n8l l
def n8l : List R8 → Nat
 | [] => 0
 | t :: r => n8s t + n8l r
end
def K8 (k : Int) (n : Nat) : Prop := (k = 0 ∧ n = 0) ∨ (k = 1 ∧ n = 0) ∨ ((k = 2 ∨ k = 3) ∧ n = 2) ∨ (k = 4 ∧ n = 1)
mutual
def G8 : R8 → Prop
 | .node k _ _ l => K8 k l.length ∧ G8s l
def G8s : List R8 → Prop
 | [] => True
 | t :: r => G8 t ∧ G8s r
end
theorem Ad1 : ∀ l : List R6, (U0 l).length = l.length
 | [] => by rw [U0]; rfl
 | t :: r => by rw [U0, Du3, Ad1 r, Du3]
theorem Bk9 (a b : List R8) : n8l (a ++ b) = n8l a + n8l b := by
 induction a with
 | nil => simp [n8l]
 | cons t r ih => simp only [Dr6, n8l, ih]; omega
theorem Bq6 (n : Nat) (a : R8) : n8l (List.replicate n a) = n * n8s a := by
 induction n with
 | zero => simp [n8l]
 | succ n ih => rw [Ea1, n8l, ih, Ea8]; omega
theorem Bq4 : n8s default = 1 := by
 show n8s (.node 0 0 false []) = 1
 rw [n8s, n8l]
theorem Ae5 (k : Int) (a b : R8) : n8s (Ac6 k a b) = 1 + n8s a + n8s b := by
 unfold Ac6
 rw [n8s, n8l, n8l, n8l]; omega
theorem Br8 : G8 default := by
 show G8 (.node 0 0 false [])
 rw [G8, G8s]
 exact ⟨.inl ⟨rfl, rfl⟩, trivial⟩
theorem Aj0 {k : Int} {a b : R8} (hk : k = 2 ∨ k = 3) (ha : G8 a) (hb : G8 b) : G8 (Ac6 k a b) := by
 unfold Ac6
 rw [G8, G8s, G8s, G8s]
 exact ⟨.inr (.inr (.inl ⟨hk, rfl⟩)), ha, hb, trivial⟩
theorem Dk0 {lz : Bool} {a : R8} (ha : G8 a) : G8 (.node 4 0 lz [a]) := by
 rw [G8, G8s, G8s]
 exact ⟨.inr (.inr (.inr ⟨rfl, rfl⟩)), ha, trivial⟩
theorem Ap6 (k : Int) : ∀ l : List R8, n8s (R0 k l) = if l.length = 0 then 1 else n8l l + (l.length - 1)
 | [] => by rw [R0, Bq4]; rfl
 | [a] => by rw [R0, n8l, n8l]; simp
 | a :: b :: r => by
  have e : n8l (a :: b :: r) = n8s a + n8l (b :: r) := by rw [n8l]
  rw [R0, Ae5, Ap6 k (b :: r), e]
  simp only [Du3]
  rw [Dr1 (by omega), Dr1 (by omega)]
  omega
theorem Az2 {k : Int} (hk : k = 2 ∨ k = 3) : ∀ l : List R8, (∀ t ∈ l, G8 t) → G8 (R0 k l)
 | [], _ => by rw [R0]; exact Br8
 | [a], h => by rw [R0]; exact h a (Du2 ..)
 | a :: b :: r, h => by
  rw [R0]
  exact Aj0 hk (h a (Du2 ..)) (Az2 hk (b :: r) fun t ht => h t (Dv9 _ ht))
theorem Dh2 (lz : Bool) (x : R8) : n8s (optR lz x) = n8s x + 2 := by
 unfold optR
 split <;> rw [Ae5, Bq4] <;> omega
theorem g8_opt {lz : Bool} {x : R8} (h : G8 x) : G8 (optR lz x) := by
 unfold optR
 split
 ·exact Aj0 (.inr rfl) Br8 h
 ·exact Aj0 (.inr rfl) h Br8
theorem Bk8 (r : R8) (lz : Bool) : ∀ n, n8s (S3 r lz n) = (n + 1) * (n8s r + 2) + n
 | 0 => by rw [S3, Dh2]; omega
 | n + 1 => by
  rw [S3, Dh2, Ae5, Bk8 r lz n, Ea8 (n + 1)]
  omega
theorem Ca3 {r : R8} {lz : Bool} (h : G8 r) : ∀ n, G8 (S3 r lz n)
 | 0 => by rw [S3]; exact g8_opt h
 | n + 1 => by rw [S3]; exact g8_opt (Aj0 (.inl rfl) h (Ca3 h n))
theorem Ca2 {l : List R8} (h : 0 < l.length) : l.getD 0 default ∈ l := by
 match l, h with
 | t :: r, _ => exact Du2 ..
theorem g8_core {k : Int} {s : Nat} {mn mx : Int} {lz : Bool} {l : List R8} (h : K6 k mn mx l.length) (hl : ∀ t ∈ l, G8 t) : G8 (Af5 k s mn mx lz l) := by
 unfold Af5
 split
 ·exact Br8
 split
 ·rw [G8, G8s]
  exact ⟨.inr (.inl ⟨rfl, rfl⟩), trivial⟩
 rename_i h0 h1
 split
 ·rename_i h2
  exact hl _ (Ca2 (by rcases h with h | h | h | h | h <;> omega))
 split
 ·exact Az2 (.inl rfl) l hl
 split
 ·exact Az2 (.inr rfl) l hl
 rename_i h2 h4 h5
 have hn : l.length = 1 := by rcases h with h | h | h | h | h <;> omega
 have h0 := hl _ (Ca2 (by omega))
 refine Az2 (.inl rfl) _ fun t ht => ?_
 rcases Dv0.1 ht with ht | ht
 ·rw [(List.mem_replicate.1 ht).2]; exact h0
 ·unfold Bh5 at ht
  split at ht
  ·rw [Dr4] at ht
   subst ht
   match l, hn with
   | [a], _ => exact Dk0 h0
  split at ht
  ·rw [Dr4] at ht
   subst ht
   exact Ca3 h0 _
  ·cases ht
mutual
theorem Bn4 : ∀ t : R6, G6 t → G8 (Ar3 t)
 | .node k s mn mx lz l _ _, h => by
  rw [G6] at h
  rw [Ar3]
  exact g8_core (by rw [Ad1]; exact h.1) (Bf4 l h.2)
theorem Bf4 : ∀ l : List R6, G6s l → ∀ t ∈ U0 l, G8 t
 | [], _, t, ht => by rw [U0] at ht; cases ht
 | u :: r, h, t, ht => by
  rw [G6s] at h
  rw [U0] at ht
  rcases Dv7.1 ht with rfl | ht
  ·exact Bn4 u h.1
  ·exact Bf4 r h.2 t ht
end
theorem sz_core {k : Int} {s : Nat} {mn mx : Int} {lz : Bool} {l : List R8} (h : K6 k mn mx l.length) : n8s (Af5 k s mn mx lz l) = if k < 2 then 1 else if k = 6 then
   (if mn.toNat + (if mx = -1 then 1 else 0) + (if mn < mx then 1 else 0) = 0 then 1 else
    mn.toNat * n8l l + (if mx = -1 then n8l l + 1 else 0) + (if mn < mx then (mx - mn).toNat * (n8l l + 2) + ((mx - mn).toNat - 1) else 0) + (mn.toNat + (if mx = -1 then 1 else 0) + (if mn < mx then 1 else 0) - 1))
   else n8l l + (l.length - 1) := by
 unfold Af5
 rcases h with h | h | h | h | h
 ·rw [Dr2 h.1, Dr2 (by omega), Bq4]
 ·rw [Dr1 (by omega), Dr2 h.1, Dr2 (by omega), n8s, n8l]
 ·rw [Dr1 (by omega), Dr1 (by omega), Dr2 h.1, Dr1 (by omega), Dr1 (by omega), h.2]
  match l, h.2 with
  | [a], _ => simp [n8l]
 ·rw [Dr1 (by omega), Dr1 (by omega), Dr1 (by omega), Dr1 (show ¬ k < 2 by omega), Dr1 (show ¬ k = 6 by omega)]
  split
  ·rw [Ap6, Dr1 (by omega)]
  ·rw [Dr2 (by omega), Ap6, Dr1 (by omega)]
 ·obtain ⟨hk, hn, h1, h2, h3, h4⟩ := h
  match l, hn with
  | [a], _ =>
   rw [Dr1 (by omega), Dr1 (by omega), Dr1 (by omega), Dr1 (by omega), Dr1 (by omega), Dr1 (by omega), Dr2 hk, Ap6]
   have e0 : ([a] : List R8).getD 0 default = a := rfl
   have e1 : n8l [a] = n8s a := by simp [n8l]
   rw [e0, e1, Dr7, Du6, Bk9, Bq6]
   unfold Bh5
   by_cases hm : mx = -1
   ·have hx : ¬ mn < mx := by omega
    simp only [Dr2 hm, Dr1 hx]
    have : n8l [R8.node 4 0 lz [a]] = n8s a + 1 := by rw [n8l, n8l, n8s, e1]; omega
    rw [this]
    simp only [Dw2]
    rw [Dr1 (by omega), Dr1 (by omega)]
    omega
   ·by_cases hx : mn < mx
    ·simp only [Dr1 hm, Dr2 hx]
     have : n8l [S3 (([a] : List R8).getD 0 default) lz ((mx - mn).toNat - 1)] = (mx - mn).toNat * (n8s a + 2) + ((mx - mn).toNat - 1) := by
      rw [n8l, n8l, Bk8, e0]
      rw [show (mx - mn).toNat - 1 + 1 = (mx - mn).toNat by omega]
      omega
     rw [this]
     simp only [Dw2]
     rw [Dr1 (by omega), Dr1 (by omega)]
     omega
    ·simp only [Dr1 hm, Dr1 hx, n8l, Ea5, Nat.add_zero]
mutual
theorem Bn3 : ∀ t : R6, G6 t → n8s (Ar3 t) = szR t
 | .node k s mn mx lz l _ _, h => by
  rw [G6] at h
  have hs := Bf3 l h.2
  rw [Ar3, sz_core (by rw [Ad1]; exact h.1), Ad1, hs, szR]
theorem Bf3 : ∀ l : List R6, G6s l → n8l (U0 l) = Az8 l
 | [], _ => by rw [U0, n8l, Az8]
 | u :: r, h => by
  rw [G6s] at h
  rw [U0, n8l, Az8, Bn3 u h.1, Bf3 r h.2]
end
def Ah9 : R8 := .node 4 0 true [.node 1 (2 ^ 256 - 1) false []]
def Al1 (r : R8) (m : Int) : R8 := if m = 1 then Ac6 2 r Ah9 else if m = 2 then Ac6 2 Ah9 r else if m = 3 then Ac6 2 Ah9 (Ac6 2 r Ah9) else r
theorem Br9 : G8 Ah9 := by
 refine Dk0 ?_
 rw [G8, G8s]
 exact ⟨.inr (.inl ⟨rfl, rfl⟩), trivial⟩
theorem Bq5 : n8s Ah9 = 2 := by
 unfold Ah9
 rw [n8s, n8l, n8l, n8s, n8l]
theorem g8_mode {r : R8} (h : G8 r) (m : Int) : G8 (Al1 r m) := by
 unfold Al1
 split
 ·exact Aj0 (.inl rfl) h Br9
 split
 ·exact Aj0 (.inl rfl) Br9 h
 split
 ·exact Aj0 (.inl rfl) Br9 (Aj0 (.inl rfl) h Br9)
 ·exact h
theorem n8s_mode (r : R8) (m : Int) : n8s (Al1 r m) ≤ n8s r + 6 := by
 unfold Al1
 split
 ·rw [Ae5, Bq5]; omega
 split
 ·rw [Ae5, Bq5]; omega
 split
 ·rw [Ae5, Ae5, Bq5]; omega
 ·omega
def clp (n : Nat) : Int := min 9223372036854775807 (n : Int)
theorem Ao7 (a b : Nat) : Y2 (clp a) (clp b) = clp (a + b) := by unfold Y2 clp; omega
theorem Ar6 (a : Nat) : 0 ≤ clp a ∧ clp a ≤ 9223372036854775807 := by unfold clp; omega
def Ai5 (m : Int) : Nat := if m = 0 then 0 else if m = 3 then 6 else 3
def I6 (L : List Nat) (m : Int) : R8 × Int × Int :=
 if m < 0 ∨ 3 < m then (default, 0, 1)
 else if (O4 L).2.2 ≠ 0 then (default, (O4 L).2)
 else if 4096 < clp (szR (O4 L).1 + Ai5 m) then (default, 0, 3)
 else (Al1 (Ar3 (O4 L).1) m, 0, 0)
theorem Ap0 (L : List Nat) (m : Int) (hL : ∀ b ∈ L, b < 256) (hl : L.length ≤ 1000) (h : (I6 L m).2.2 = 0) : G8 (I6 L m).1 ∧ n8s (I6 L m).1 ≤ 5000 := by
 unfold I6 at h ⊢
 split at h
 ·cases h
 rename_i h1
 rw [Dr1 h1]
 split at h
 ·rename_i h2; exact absurd h h2
 rename_i h2
 rw [Dr1 h2]
 split at h
 ·cases h
 rename_i h3
 rw [Dr1 h3]
 have hg := Av7 L hL hl (by simpa using h2)
 refine ⟨g8_mode (Bn4 _ hg) m, ?_⟩
 have h4 := n8s_mode (Ar3 (O4 L).1) m
 rw [Bn3 _ hg] at h4
 unfold clp at h3
 show n8s (Al1 (Ar3 (O4 L).1) m) ≤ 5000
 omega
section
section
variable {P : Program} {n : Nat} {e : Env} {dst : Option Tmp} {t : TypeId} {p : String} {af : Array Edge} {g : Option (Nat × Bool)} {φ : World → Prop}
theorem Cd5 {τ : TypeId} {sz : Nat} {x y : Operand} {b o m c : Nat} {k : IntKind} {i : Int} (ht : slB P τ sz = true) (hx : ev e x = some (.slice (some ⟨b, o, none⟩) m c)) (hy : ev e y = some (.int k i)) (h0 : 0 ≤ i) (h1 : i ≤ m) (h2 : i < c) :
  Does P n e ⟨dst, .slice τ x (some y) none none, t, p, af, g⟩ φ (.slice (some ⟨b, o + i.toNat * sz, none⟩) (m - i.toNat) (c - i.toNat)) := fun a w ha _ => by
 obtain ⟨el, inf, hu, hi, hs⟩ := Bp0 ht
 have h : 0 ≤ i ∧ i ≤ m := ⟨h0, h1⟩
 have h3 : ¬ c = i.toNat := by omega
 simp [execOp, ha.ev hx, ha.ev hy, Instr.sliceAt, Instr.slice, run_underlying hu, Instr.sliceBounds, Instr.sliceBound, asIntOf, h, sizeOf, typeInfo, hi, hs, h3, Addr.add]
end
theorem N8.cells {F : Nat → Prop} {w : World} {t : R8} {cs : List Value} (h : N8 F w t cs) : ∃ a0 a1 a2 a3 a4 a5 a6, cs = [a0, a1, a2, a3, a4, a5, a6] := by
 cases t with
 | node k s lz l =>
  rw [N8] at h
  obtain ⟨A, c, css, rfl, _⟩ := h
  exact ⟨_, _, _, _, _, _, _, rfl⟩
theorem N8.one1 {F : Nat → Prop} {w : World} {t : R8} {cs : List Value} (h : N8 F w t cs) : cs.all Value.oneCell' = true := by
 cases t with
 | node k s lz l =>
  rw [N8] at h
  obtain ⟨A, c, css, rfl, _⟩ := h
  rfl
theorem N8r.snoc {F : Nat → Prop} {w : World} {t : R8} {cs : List Value} : ∀ {l : List R8} {css : List (List Value)}, N8r F w l css → N8 F w t cs → N8r F w (l ++ [t]) (css ++ [cs])
 | [], css, h, ht => by
  rw [N8r] at h
  subst h
  show N8r F w [t] [cs]
  rw [N8r]
  exact ⟨cs, [], rfl, ht, by rw [N8r]⟩
 | u :: r, css, h, ht => by
  rw [N8r] at h
  obtain ⟨cu, rest, rfl, h2, h3⟩ := h
  show N8r F w (u :: (r ++ [t])) (cu :: (rest ++ [cs]))
  rw [N8r]
  exact ⟨cu, rest ++ [cs], rfl, h2, N8r.snoc h3 ht⟩
theorem N8r.row {F : Nat → Prop} {w : World} : ∀ {l : List R8} {css : List (List Value)}, N8r F w l css → ∀ k, k < l.length → ∀ j v, (css.getD k [])[j]? = some v → (List.flatten css)[k * 7 + j]? = some v
 | [], css, h, k, hk => by simp at hk
 | t :: r, css, h, k, hk => by
  rw [N8r] at h
  obtain ⟨cs, rest, rfl, h2, h3⟩ := h
  intro j v hv
  have hlen := h2.len
  rw [List.flatten_cons]
  cases k with
  | zero =>
   rw [Du1 (by have := (Ds8.1 hv).1; simp at this; omega)]
   simpa using hv
  | succ k =>
   rw [Dt8 (by omega), show (k + 1) * 7 + j - cs.length = k * 7 + j by omega]
   exact N8r.row h3 k (by simpa using hk) j v (by simpa using hv)
theorem Cg9 {F : Nat → Prop} {w : World} (k : Int) (s : Nat) (lz : Bool) : N8 F w (.node k s lz []) (n8C k s lz none 0 0) := by
 rw [N8]
 exact ⟨none, 0, [], rfl, Rd.nil _ _ _ _, by rw [N8r]⟩
theorem Ai4 (F : Nat → Prop) (w : World) : N8 F w default [.int .i64 0, .int .u64 0, .int .u64 0, .int .u64 0, .int .u64 0, .bool false, .slice none 0 0] := by
 have h := Cg9 (F := F) (w := w) 0 0 false
 unfold n8C at h
 rw [C3] at h
 exact h
theorem n8_one {F F' : Nat → Prop} {w : World} {b : Nat} {n : R8} {cs : List Value} (k : Int) (s : Nat) (lz : Bool) (hB : Blk w b cs 73) (hF : F b) (hn : N8 F' w n cs) (hm : ∀ z, F' z → z < w.heap.size → F z) : N8 F w (.node k s lz [n]) (n8C k s lz (some ⟨b, 0, none⟩) 1 1) := by
 have hlen := hn.len
 rw [N8]
 refine ⟨some ⟨b, 0, none⟩, 1, [cs], rfl, by simpa using hB.rd (sz := 7) (m := 1) (by simp [hlen]) hF, ?_⟩
 rw [N8r]
 exact ⟨cs, [], rfl, hn.mono hm, by rw [N8r]⟩
theorem n8_node {F : Nat → Prop} {w : World} {A : Option Addr} {c : Nat} {l : List R8} {css : List (List Value)} (k : Int) (s : Nat) (lz : Bool) (hr : Rd F w 7 A l.length (List.flatten css)) (hI : N8r F w l css) : N8 F w (.node k s lz l) (n8C k s lz A l.length c) := by
 rw [N8]
 exact ⟨A, c, css, rfl, hr, hI⟩
def Dr0 (k : Int) (l : List R8) : Prop := ∀ (css : List (List Value)) (A : Option Addr) (c : Nat) (F : Nat → Prop) (w : World), l.length ≤ c → l.length ≤ 1000000 → (∀ x, F x → x < w.heap.size) → Rd F w 7 A l.length (List.flatten css) → N8r F w l css → Calls P 122 #[.int .i64 k, .slice A l.length c] w (Ret fun u w' => Chg [] w w' ∧ ∃ cs, u = .agg cs.toArray ∧ N8 (fun x => F x ∨ (w.heap.size ≤ x ∧ x < w'.heap.size)) w' (R0 k l) cs)
theorem Au6 (k : Int) (l : List R8) (hr0 : ∀ a b r, l = a :: b :: r → Dr0 k (b :: r)) : Dr0 k l := by
 intro css A c F w hlc hlm hF hr hI
 have hC := A8 [] w
 refine D3 Tryz.func122 rfl rfl (Qd (B4 rfl (B6 Ak8 rfl) ?_))
 intro b1 w1 hb1 hs1 hx1 hB1
 have hC := hC.s0 hx1
 have hr := hr.u hx1
 have hI := hI.u hx1
 refine Qc (Qa (Qd (Z 1 rfl (Ln Tryz.underlying71 rfl (Zc 1 rfl (A4 rfl (fun h0 => ?_) (fun h0 => ?_)))))))
 ·try simp at h0
  subst h0
  refine Qd (C7 rfl (A9 Ak8 Co8 rfl (by rfl)) ?_)
  refine Pe Ah1 rfl ‹_› rfl rfl ?_
  intro w2 hs2 hx2 hB1
  have hC := hC.step hx2 (by simp; omega)
  refine Qc (A6 (C8 rfl rfl (A5 K4 ‹_› rfl rfl) ?_))
  rw [R0]
  exact ⟨hC, _, rfl, Ai4 _ _⟩
 ·try simp at h0
  refine A7 (Qa (Qd (Z 1 rfl (Ln Tryz.underlying71 rfl (Zc 1 rfl (A4 rfl (fun h1 => ?_) (fun h1 => ?_)))))))
  ·try simp at h1
   obtain ⟨a, rfl⟩ : ∃ a, l = [a] := List.length_eq_one_iff.1 (by omega)
   obtain ⟨_, off, rfl, hFg, hlt, hcell⟩ := hr.at_ (by show 0 < 1; omega)
   rw [N8r] at hI
   obtain ⟨ca, rest, rfl, ha, hrest⟩ := hI
   rw [N8r] at hrest
   subst hrest
   have hone := ha.one1
   obtain ⟨a0, a1, a2, a3, a4, a5, a6, rfl⟩ := ha.cells
   refine Qd (Z 1 rfl (C7 rfl (B9 Ah3 rfl rfl (by omega) (by omega)) (C7 rfl (E4 (vs := [a0, a1, a2, a3, a4, a5, a6]) K4 rfl (E9 _) (fun j v hj => hcell j v (by simpa using hj)) rfl) ?_)))
   refine Pb (cs' := [a0, a1, a2, a3, a4, a5, a6]) Ah1 rfl rfl hB1 rfl rfl hone rfl rfl ?_
   intro w3 hs3 hx3 hB1
   have hC := hC.step hx3 (by simp; omega)
   have ha := ha.q hx3 (by intro b hb hFb; have := hF _ hFb; simp at hb; omega)
   refine Qc (A6 (C8 rfl rfl (A5 K4 ‹_› rfl rfl) ?_))
   rw [R0]
   exact ⟨hC, _, rfl, ha.mono fun x h _ => .inl h⟩
  ·try simp at h1
   obtain ⟨a, b, r, rfl⟩ : ∃ a b r, l = a :: b :: r := by
    match l, h0, h1 with
    | [], h0, _ => exact absurd rfl h0
    | [_], _, h1 => exact absurd rfl h1
    | a :: b :: r, _, _ => exact ⟨a, b, r, rfl⟩
   rw [N8r] at hI
   obtain ⟨ca, rest, rfl, ha, hI⟩ := hI
   have hla := ha.len
   have hlr : (a :: b :: r).length = (b :: r).length + 1 := rfl
   refine A7 (Qa (C6 (S := []) 8 [(0, 0), (0, 1), (0, 2), (0, 3), (0, 4), (0, 5), (0, 6), (1, 7), (2, 8), (2, 9)] mo (by kernel_rfl) ?_))
   intro w4 hx4 hh4
   have hr := hr.u hx4
   have ha := ha.u hx4
   have hI := hI.u hx4
   have hCS4 := A8 ([]) w4
   obtain ⟨gA, off, rfl, hFg, hlt, hcell⟩ := hr.at_ (by simp)
   have hone := ha.one1
   obtain ⟨a0, a1, a2, a3, a4, a5, a6, rfl⟩ := ha.cells
   refine Z 2 rfl (D5 rfl (B9 Ah3 rfl rfl (by omega) (by omega)) (D5 rfl (J0 (vs := [a0, a1, a2, a3, a4, a5, a6]) K4 rfl ⟨hlt, fun j v hj => hcell j v (by rw [List.flatten_cons, Du1 (Ds8.1 hj).1]; exact hj)⟩ (by simp; done) rfl) ?_))
   refine Z 2 rfl (D5 rfl (Cd5 Ah3 rfl rfl (by omega) (by rw [hlr]; omega) (by omega)) ?_)
   have hr2 : Rd F w4 7 (some ⟨gA, off + 7, none⟩) (b :: r).length (List.flatten rest) := ⟨by have := hr.len; simp at this ⊢; omega, fun _ => ⟨gA, off + 7, rfl, hFg, hlt, fun j v hj => by rw [Dt1]; exact hcell (7 + j) v (by rw [List.flatten_cons, Dt8 (by simp)]; simpa using hj)⟩⟩
   refine C4 rfl (C0 fb122 rfl) (hr0 a b r rfl rest _ _ F _ (by omega) (by omega) (fun z hz => by have := hF z hz; omega) ‹_› ‹_›) ?_
   rintro _ w5 ⟨hx5, cs1, rfl, hn1⟩
   have hz5 := hx5.size
   have ha := ha.u hx5
   have hCS4 := hCS4.s0 hx5
   refine ⟨hCS4, ?_⟩
   refine Ca Ca6 rfl (Ah8 k a (R0 k (b :: r)) _ _ _ _ (fun z hz => by rcases hz with h | h; have := hF z h; omega; omega) (ha.mono fun z h _ => .inl h) hn1) ?_
   rintro _ w6 ⟨hx6, cs2, rfl, hn2⟩
   have hB1 := hB1.u ((hx4.s0 hx5).s0 hx6)
   have hn2 := hn2.mono (F' := fun x => x ≠ b1 ∧ True ∧ (F x ∨ w.heap.size ≤ x)) (fun z h hzl => by rcases h with (h | h) | h; exact ⟨by have := hF z h; omega, trivial, .inl h⟩; exact ⟨by omega, trivial, .inr (by omega)⟩; exact ⟨by omega, trivial, .inr (by omega)⟩)
   have hone2 := hn2.one1
   obtain ⟨d0, d1, d2, d3, d4, d5, d6, rfl⟩ := hn2.cells
   refine Pb (cs' := [d0, d1, d2, d3, d4, d5, d6]) Ah1 rfl rfl hB1 rfl rfl hone2 rfl rfl ?_
   intro w7 hs7 hx7 hB1
   have hC := hC.step (((hx4.j hx5).j hx6).j hx7) (by simp <;> omega)
   have hn2 := hn2.q hx7 (by simp; done)
   refine Qc (A6 (C8 rfl rfl (A5 K4 ‹_› rfl rfl) ?_))
   rw [R0]
   exact ⟨hC, _, rfl, hn2.mono fun z h hzl => by rcases h.2.2 with h | h; exact .inl h; exact .inr ⟨by omega, hzl⟩⟩
theorem Bp8 (k : Int) : ∀ l : List R8, Dr0 k l
 | [] => Au6 k [] fun a b r h => by cases h
 | [a] => Au6 k [a] fun a b r h => by cases h
 | a :: b :: r => Au6 k _ fun a' b' r' h => by cases h; exact Bp8 k (b :: r)
end
def innR (r : R8) (lz : Bool) : Nat → R8
 | 0 => r
 | n + 1 => Ac6 2 r (S3 r lz n)
def Cm8 (r : R8) (lz : Bool) (m : Nat) : Prop := ∀ (cs : List Value) (F : Nat → Prop) (w : World) (n : Int), n = (m : Int) + 1 → (∀ x, F x → x < w.heap.size) → N8 F w r cs → Calls P 123 #[.agg cs.toArray, .int .i64 n, .bool lz] w (Ret fun u w' => Chg [] w w' ∧ ∃ cs', u = .agg cs'.toArray ∧ N8 (fun x => F x ∨ (w.heap.size ≤ x ∧ x < w'.heap.size)) w' (S3 r lz m) cs')
theorem Bf8 (r : R8) (lz : Bool) (m : Nat) (hm : m ≤ 1000000) (hr0 : ∀ k, m = k + 1 → Cm8 r lz k) : Cm8 r lz m := by
 intro cs F w n hn0 hF hr
 have hC := A8 [] w
 have hE : S3 r lz m = optR lz (innR r lz m) := by cases m <;> rfl
 have hone := hr.one1
 obtain ⟨a0, a1, a2, a3, a4, a5, a6, rfl⟩ := hr.cells
 refine D3 Tryz.func123 rfl rfl (Qd (B4 rfl (E0 rfl rfl) ?_))
 intro b1 w1 hb1 hs1 hx1 hB1
 refine B4 rfl (B6 Ak8 rfl) ?_
 intro b2 w2 hb2 hs2 hx2 hB2
 have hB1 := hB1.u hx2
 refine Qc (Qd (La K4 rfl ‹_› rfl rfl ?_))
 refine B4 rfl (B6 Ak8 rfl) ?_
 intro b3 w3 hb3 hs3 hx3 hB3
 have hr := hr.u ((hx1.s0 hx2).s0 hx3)
 refine Pb (cs' := [a0, a1, a2, a3, a4, a5, a6]) Ah1 rfl rfl hB3 rfl rfl hone rfl rfl ?_
 intro w4 hs4 hx4 hB3
 have hC := hC.step (((hx1.j hx2).j hx3).j hx4) (by simp <;> omega)
 have hr := hr.q hx4 (by intro b hb hFb; have := hF _ hFb; simp at hb; omega)
 have hB1 := hB1.q (hx3.j hx4) (by simp <;> omega)
 have hB2 := hB2.q (hx3.j hx4) (by simp <;> omega)
 refine Qc (I1 (fun e9 wr => ∃ cs2, Sub [(2, .bool lz), (6, .pointer (some ⟨b2, 0, none⟩)), (7, .pointer (some ⟨b3, 0, none⟩))] e9 ∧ Chg [] w wr ∧ Blk wr b2 [.int .i64 0, .int .u64 0, .int .u64 0, .int .u64 0, .int .u64 0, .bool false, .slice none 0 0] 73 ∧ Blk wr b3 cs2 73 ∧ N8 (fun x => x ≠ b3 ∧ x ≠ b2 ∧ (F x ∨ w.heap.size ≤ x)) wr (innR r lz m) cs2) ?_ ?_)
 ·refine Qd (Zc 2 rfl (A4 rfl (fun h1 => ?_) (fun h1 => ?_)))
  ·try simp at h1
   obtain ⟨k, rfl⟩ : ∃ k, m = k + 1 := ⟨m - 1, by omega⟩
   refine C6 (S := []) 6 [(0, 0), (0, 1), (0, 2), (0, 3), (0, 4), (1, 5), (2, 6), (2, 7)] mo (by kernel_rfl) ?_
   intro w5 hx5 hh5
   have hr := hr.u hx5
   have hB1 := hB1.u hx5
   have hCS5 := A8 ([]) w5
   refine D5 rfl (B8 K4 rfl ‹_› (by simp; done) rfl rfl) ?_
   refine D5 rfl (B8 K4 rfl ‹_› (by simp; done) rfl rfl) ?_
   refine Z 1 rfl (Su rfl rfl (by omega) (Z 1 rfl (C4 rfl (C0 fb123 rfl) (hr0 k rfl _ F _ _ (by omega) (fun z hz => by have := hF z hz; omega) hr) ?_)))
   rintro _ w6 ⟨hx6, cs1, rfl, hn1⟩
   have hz6 := hx6.size
   have hr := hr.u hx6
   have hCS5 := hCS5.s0 hx6
   refine ⟨hCS5, ?_⟩
   refine Ca Ca6 rfl (Ah8 2 r (S3 r lz k) _ _ _ _ (fun z hz => by rcases hz with h | h; have := hF z h; omega; omega) (hr.mono fun z h _ => .inl h) hn1) ?_
   rintro _ w7 ⟨hx7, cs3, rfl, hn2⟩
   have hB3 := hB3.u ((hx5.s0 hx6).s0 hx7)
   have hn2 := hn2.mono (F' := fun x => x ≠ b3 ∧ x ≠ b2 ∧ (F x ∨ w.heap.size ≤ x)) (fun z h hzl => by rcases h with (h | h) | h; exact ⟨by have := hF z h; omega, by have := hF z h; omega, .inl h⟩; exact ⟨by omega, by omega, .inr (by omega)⟩; exact ⟨by omega, by omega, .inr (by omega)⟩)
   have hone2 := hn2.one1
   obtain ⟨d0, d1, d2, d3, d4, d5, d6, rfl⟩ := hn2.cells
   refine Pb (cs' := [d0, d1, d2, d3, d4, d5, d6]) Ah1 rfl rfl hB3 rfl rfl hone2 rfl rfl ?_
   intro w8 hs8 hx8 hB3
   have hC := hC.step (((hx5.j hx6).j hx7).j hx8) (by simp <;> omega)
   have hB2 := hB2.q (((hx5.j hx6).j hx7).j hx8) (by simp <;> omega)
   have hn2 := hn2.q hx8 (by simp; done)
   refine Qc ⟨[d0, d1, d2, d3, d4, d5, d6], sb rfl, ?_⟩
   exact ⟨hC, hB2, hB3, hn2⟩
  ·try simp at h1
   have hm0 : m = 0 := by omega
   subst hm0
   refine A7 ⟨[a0, a1, a2, a3, a4, a5, a6], sb rfl, ?_⟩
   exact ⟨hC, hB2, hB3, hr.mono fun z h _ => ⟨by have := hF z h; omega, by have := hF z h; omega, .inl h⟩⟩
 rintro e9 w9 ⟨cs2, hs9, hC, hB2, hB3, hn⟩
 refine I0 _ hs9 ?_
 clear hs9 e9
 have hl3 := hB3.lt
 rw [hE]
 generalize innR r lz m = q at *
 have hone3 := hn.one1
 obtain ⟨d0, d1, d2, d3, d4, d5, d6, rfl⟩ := hn.cells
 refine Qa (Qd (Zc 1 rfl (A4 rfl (fun h4 => ?_) (fun h4 => ?_))))
 ·try simp at h4
  subst h4
  refine Qd (C7 rfl (A9 Ak8 Co8 rfl (by rfl)) ?_)
  refine La K4 rfl ‹_› rfl rfl ?_
  refine Ca Ca6 rfl (Ah8 3 default q [.int .i64 0, .int .u64 0, .int .u64 0, .int .u64 0, .int .u64 0, .bool false, .slice none 0 0] _ _ _ (fun z hz => by rcases hz.2.2 with h | h; have := hF z h; omega; exact hz.1) (Ai4 _ _) (hn.mono fun z h hzl => (⟨hzl, h.2.1, h.2.2⟩ : z < w9.heap.size ∧ z ≠ b2 ∧ (F z ∨ w.heap.size ≤ z)))) ?_
  rintro _ w9 ⟨hx9, cs4, rfl, hn4⟩
  have hB2 := hB2.u hx9
  have hn4 := hn4.mono (F' := fun x => x ≠ b2 ∧ True ∧ (F x ∨ w.heap.size ≤ x)) (fun z h hzl => by rcases h with h | h; exact ⟨h.2.1, trivial, h.2.2⟩; exact ⟨by omega, trivial, .inr (by omega)⟩)
  have hone4 := hn4.one1
  obtain ⟨f0, f1, f2, f3, f4, f5, f6, rfl⟩ := hn4.cells
  refine Pb (cs' := [f0, f1, f2, f3, f4, f5, f6]) Ah1 rfl rfl hB2 rfl rfl hone4 rfl rfl ?_
  intro w10 hs10 hx10 hB2
  have hC := hC.step (hx9.j hx10) (by simp <;> omega)
  have hn4 := hn4.q hx10 (by simp; done)
  refine Qc (A6 (C8 rfl rfl (A5 K4 ‹_› rfl rfl) ?_))
  exact ⟨hC, _, rfl, hn4.mono fun z h hzl => by rcases h.2.2 with h | h; exact .inl h; exact .inr ⟨by omega, hzl⟩⟩
 ·try simp at h4
  have h4' : lz = false := by simpa using h4
  subst h4'
  refine A7 (Qd (La K4 rfl ‹_› rfl rfl ?_))
  refine C7 rfl (A9 Ak8 Co8 rfl (by rfl)) ?_
  refine Ca Ca6 rfl (Ah8 3 q default _ [.int .i64 0, .int .u64 0, .int .u64 0, .int .u64 0, .int .u64 0, .bool false, .slice none 0 0] _ _ (fun z hz => by rcases hz.2.2 with h | h; have := hF z h; omega; exact hz.1) (hn.mono fun z h hzl => (⟨hzl, h.2.1, h.2.2⟩ : z < w9.heap.size ∧ z ≠ b2 ∧ (F z ∨ w.heap.size ≤ z))) (Ai4 _ _)) ?_
  rintro _ w11 ⟨hx11, cs4, rfl, hn4⟩
  have hB2 := hB2.u hx11
  have hn4 := hn4.mono (F' := fun x => x ≠ b2 ∧ True ∧ (F x ∨ w.heap.size ≤ x)) (fun z h hzl => by rcases h with h | h; exact ⟨h.2.1, trivial, h.2.2⟩; exact ⟨by omega, trivial, .inr (by omega)⟩)
  have hone4 := hn4.one1
  obtain ⟨f0, f1, f2, f3, f4, f5, f6, rfl⟩ := hn4.cells
  refine Pb (cs' := [f0, f1, f2, f3, f4, f5, f6]) Ah1 rfl rfl hB2 rfl rfl hone4 rfl rfl ?_
  intro w12 hs12 hx12 hB2
  have hC := hC.step (hx11.j hx12) (by simp <;> omega)
  have hn4 := hn4.q hx12 (by simp; done)
  refine Qc (A6 (C8 rfl rfl (A5 K4 ‹_› rfl rfl) ?_))
  exact ⟨hC, _, rfl, hn4.mono fun z h hzl => by rcases h.2.2 with h | h; exact .inl h; exact .inr ⟨by omega, hzl⟩⟩
theorem Bx1 (r : R8) (lz : Bool) : ∀ m, m ≤ 1000000 → Cm8 r lz m
 | 0, h => Bf8 r lz 0 h fun k hk => by omega
 | m + 1, h => Bf8 r lz (m + 1) h fun k hk => by cases hk; exact Bx1 r lz m (by omega)
def Cu3 (t : R6) : Prop := ∀ (cs : List Value) (F : Nat → Prop) (w : World), (∀ x, F x → x < w.heap.size) → N6 F w t cs → Calls P 91 #[.agg cs.toArray] w (Ret fun u w' => Chg [] w w' ∧ ∃ cs', u = .agg cs'.toArray ∧ N8 (FR w.heap.size w'.heap.size []) w' (Ar3 t) cs')
theorem Ck6 (l : List R6) (i : Nat) (h : i < l.length) : U0 (l.take (i + 1)) = U0 (l.take i) ++ [Ar3 (l.getD i default)] := by
 induction l generalizing i with
 | nil => simp at h
 | cons t r ih =>
  cases i with
  | zero => simp [U0]
  | succ i =>
   have := ih i (by simpa using h)
   simp only [Dw8, U0, Ds7, this, Dr6]
theorem Bu6 {F : Nat → Prop} {w : World} {t : R8} {cs : List Value} (h : N8 F w t cs) : ∀ n, N8r F w (List.replicate n t) (List.replicate n cs)
 | 0 => by rw [List.replicate_zero, List.replicate_zero, N8r]
 | n + 1 => by
  rw [Ea1, Ea1, N8r]
  exact ⟨cs, _, rfl, h, Bu6 h n⟩
theorem Co4 (k : Int) (l : List R8) (n : Nat) (hn : l.length = n) (css : List (List Value)) (A : Option Addr) (c : Nat) (F : Nat → Prop) (w : World) (hc : n ≤ c) (hm : n ≤ 1000000) (hF : ∀ x, F x → x < w.heap.size) (hr : Rd F w 7 A n (List.flatten css)) (hI : N8r F w l css) : Calls P 122 #[.int .i64 k, .slice A n c] w (Ret fun u w' => Chg [] w w' ∧ ∃ cs, u = .agg cs.toArray ∧ N8 (fun x => F x ∨ (w.heap.size ≤ x ∧ x < w'.heap.size)) w' (R0 k l) cs) := by
 subst hn
 exact Bp8 k l css A c F w hc hm hF hr hI
theorem N8r.one {F : Nat → Prop} {w : World} {l : List R8} {css : List (List Value)} (h : N8r F w l css) (hl : l.length = 1) : ∃ n cs, l = [n] ∧ css = [cs] ∧ N8 F w n cs := by
 match l, hl with
 | [n], _ =>
  rw [N8r] at h
  obtain ⟨cs, rest, rfl, h2, h3⟩ := h
  rw [N8r] at h3
  subst h3
  exact ⟨n, cs, rfl, rfl, h2⟩
theorem Dn9 (k : Int) (s : Nat) (mn mx : Int) (lz : Bool) (l : List R6) (fr tl : Int) (hk : K6 k mn mx l.length) (hc : ∀ i, i < l.length → Cu3 (l.getD i default)) : Cu3 (.node k s mn mx lz l fr tl) := by
 intro cs F w hF hN
 have hC := A8 [] w
 have hl2 : l.length ≤ 200000 := by rcases hk with h | h | h | h | h <;> omega
 rw [N6] at hN
 obtain ⟨A, c, css, rfl, hr, hI⟩ := hN
 rw [Ar3]
 refine D3 Tryz.func91 rfl rfl (Qd (B4 rfl (E0 rfl rfl) ?_))
 intro b1 w1 hb1 hs1 hx1 hB1
 refine B4 rfl (B6 Ak8 rfl) ?_
 intro b2 w2 hb2 hs2 hx2 hB2
 have hC := hC.s0 (hx1.s0 hx2)
 have hr := hr.u (hx1.s0 hx2)
 have hI := hI.u (hx1.s0 hx2)
 have hB1 := hB1.u hx2
 refine Qc (Qd (Zc 1 rfl (Qa (Qd (Zc 1 rfl (B0 (D7 (σ := Nat × List (List Value) × Option Addr × Nat) (fun (i, os, A', c') => [(1, .pointer (some ⟨b1, 0, none⟩)), (2, .pointer (some ⟨b2, 0, none⟩)), (3, .slice A' i c'), (4, .int .i64 (i : Nat))]) (fun (i, os, A', c') wr => Chg [] w wr ∧ Rd F wr 11 A l.length (List.flatten css) ∧ N6r F wr l css ∧ Blk wr b1 (n6C k s mn mx lz A l.length c fr tl) 140 ∧ Blk wr b2 [.int .i64 0, .int .u64 0, .int .u64 0, .int .u64 0, .int .u64 0, .bool false, .slice none 0 0] 73 ∧ Own wr (b2 + 1) 73 7 A' i c' (List.flatten os) ∧ N8r (FR (b2 + 1) wr.heap.size (F6 A')) wr (U0 (l.take i)) os ∧ i ≤ l.length) (fun (i, os, A', c') wr => l.length - i) (0, [], none, 0) (sb rfl) ?_ ?_)))))))
 ·exact ⟨hC, hr, hI, hB1, hB2, Own.nil _ _ _ _, by rw [Dz4, U0, N8r], Ds0 _⟩
 rintro ⟨i, os, A', c'⟩ w9 ⟨hC, hr, hI, hB1, hB2, hO, hJ, hi⟩
 have hOb := hO.blk
 have hlb2 := hB2.lt
 refine Qa (Qd (Z 1 rfl (Fa Au3 rfl (Lb o138 rfl ‹_› (by rfl) ?_))))
 refine Ln Tryz.underlying138 rfl (Zc 1 rfl (A4 rfl (fun h1 => ?_) (fun h1 => ?_)))
 ·try simp at h1
  have hin : i < l.length := by omega
  have hIi := hI.get i hin
  have hlen := hIi.len
  obtain ⟨gA, off, rfl, hFg, hlt, hcell⟩ := hr.at_ (by omega)
  refine A7 (Qa (B0 (Qb (Z 1 rfl (Fa Au3 rfl (Lb o138 rfl ‹_› (by rfl) ?_))))))
  refine Z 1 rfl (C7 rfl (B9 Ao5 rfl rfl (by omega) (by omega)) (C7 rfl (E4 (vs := css.getD i []) Aj7 rfl (E9 _) (fun j v hj => by rw [Dt1]; exact hcell (i * 11 + j) v (hI.row i hin j v hj)) hlen) ?_))
  refine Ca fb91 rfl (hc i hin (css.getD i []) F _ (fun z hz => by have := hF z hz; omega) hIi) ?_
  rintro _ w3 ⟨hx3, cs1, rfl, hm⟩
  have hz3 := hx3.size
  have hone := hm.one1
  generalize hme : Ar3 (l.getD i default) = m at *
  obtain ⟨a0, a1, a2, a3, a4, a5, a6, rfl⟩ := hm.cells
  refine B4 rfl (B5 Ah3 Tryz.underlying71 Ak8 rfl rfl rfl (by rfl)) ?_
  intro b4 w4 hb4 hs4 hx4 hB4
  have hC := hC.s0 (hx3.s0 hx4)
  have hr := hr.u (hx3.s0 hx4)
  have hI := hI.u (hx3.s0 hx4)
  have hB1 := hB1.u (hx3.s0 hx4)
  have hB2 := hB2.u (hx3.s0 hx4)
  have hO := hO.u (hx3.s0 hx4)
  have hJ := hJ.u (hx3.s0 hx4)
  have hm := hm.u hx4
  refine G5 rfl el71 rfl rfl hO (Blk.rd (F := fun _ => True) ‹_› rfl trivial) ‹_› (by omega) (by omega) ?_
  intro A2' c2' w5 hO5 hx5 hA2'
  have hC := hC.step hx5 (by intro x h; have := hOb x h; exact .inr (by omega))
  have hr := hr.q hx5 (by intro x hx hf; have := hOb x hx; have := hF x hf; omega)
  have hI := hI.q hx5 (by intro x hx hf; have := hOb x hx; have := hF x hf; omega)
  have hB1 := hB1.q hx5 (by intro h; have := hOb _ h; omega)
  have hB2 := hB2.q hx5 (by intro h; have := hOb _ h; omega)
  have hJ := hJ.q hx5 (by intro x hx hf; exact hf.2.2 hx)
  have hm := hm.q hx5 (by intro x hx hf; have := hOb x hx; have h1 := hf.1; have h2 := hf.2.1; omega)
  replace hO := hO5
  refine Zc 1 rfl (Qb (Z 1 rfl (Ad rfl rfl (by omega) (Zc 1 rfl ⟨(i + 1, os ++ [[a0, a1, a2, a3, a4, a5, a6]], A2', c2'), sb rfl, ?_, ?_⟩))))
  refine ⟨hC, hr, hI, hB1, hB2, by rw [Dy4]; exact hO, ?_, hin⟩
  rw [Ck6 l i hin, hme]
  exact N8r.snoc (hJ.mono fun z hz hzl => ⟨hz.1, hzl, U1 hA2' hz.2.2 (by have := hz.2.1; omega)⟩) (hm.mono fun z hz hzl => ⟨by have := hz.1; omega, hzl, U1 hA2' (fun h => by have := hOb z h; have := hz.1; omega) (by have := hz.2.1; omega)⟩)
  show l.length - (i + 1) < l.length - i
  omega
 ·try simp at h1
  have hii : i = l.length := by omega
  subst hii
  rw [Dv3] at hJ
  have hol : (U0 l).length = l.length := Ad1 l
  have hcap := hO.cap
  generalize U0 l = o at *
  refine Xb (Qa (Qd (Fa Cj4 rfl (Lb o3 rfl ‹_› (by rfl) ?_))))
  refine Qc (B0 (Qd (Zc 2 rfl (A4 rfl (fun q0 => ?_) (fun q0 => ?_)))))
  ·try simp at q0
   have hK : Af5 k s mn mx lz o = default := by unfold Af5; rw [Dr2 q0]
   rw [hK]
   refine Qd (C7 rfl (A9 Ak8 Co8 rfl (by rfl)) ?_)
   refine Pe Ah1 rfl ‹_› rfl rfl ?_
   intro w6 hs6 hx6 hB2
   have hC := hC.step hx6 (by simp; omega)
   refine Qc (A6 (C8 rfl rfl (A5 K4 ‹_› rfl rfl) ?_))
   exact ⟨hC, _, rfl, Ai4 _ _⟩
  ·try simp at q0
   refine Qd (Zc 2 rfl (A4 rfl (fun q1 => ?_) (fun q1 => ?_)))
   ·try simp at q1
    have hK : Af5 k s mn mx lz o = .node 1 s false [] := by unfold Af5; rw [Dr1 q0, Dr2 q1]
    rw [hK]
    refine Qd (Fa fl140_1 rfl (La I5 rfl ‹_› (by rfl) rfl ?_))
    refine C7 rfl (A9 Ak8 Co8 rfl (by rfl)) ?_
    refine Pe Ah1 rfl ‹_› rfl rfl ?_
    intro w7 hs7 hx7 hB2
    have hC := hC.step hx7 (by simp; omega)
    refine Qc (A6 (C8 rfl rfl (A5 K4 ‹_› rfl rfl) ?_))
    exact ⟨hC, _, rfl, Cg9 1 s false⟩
   ·try simp at q1
    refine Qa (Qd (Zc 2 rfl (A4 rfl (fun q2 => ?_) (fun q2 => ?_))))
    ·refine A7 (E1 (G9 rfl q2) ?_)
     rw [cmpB_eql] at q2
     have hK : Af5 k s mn mx lz o = o.getD 0 default := by unfold Af5; rw [Dr1 q0, Dr1 q1, Dr2 (.inl q2)]
     rw [hK]
     have hl1 : l.length = 1 := by rcases hk with h | h | h | h | h <;> omega
     obtain ⟨a, ca, rfl, rfl, ha⟩ := hJ.one (by omega)
     have hone := ha.one1
     obtain ⟨a0, a1, a2, a3, a4, a5, a6, rfl⟩ := ha.cells
     obtain ⟨g9, o9, rfl, _, _, hcell9⟩ := (hO.rd (F := fun _ => True) (fun _ _ _ => trivial)).at_ (by omega)
     refine Qd (Z 1 rfl (C7 rfl (B9 Ah3 rfl rfl (by omega) (by omega)) (C7 rfl (E4 (vs := [a0, a1, a2, a3, a4, a5, a6]) K4 rfl (E9 _) (fun j v hj => hcell9 j v (by simpa using hj)) rfl) ?_)))
     refine Pb (cs' := [a0, a1, a2, a3, a4, a5, a6]) Ah1 rfl rfl hB2 rfl rfl hone rfl rfl ?_
     intro w8 hs8 hx8 hB2
     have hC := hC.step hx8 (by simp; omega)
     have ha := ha.q hx8 (by intro x hx hf; have hx := Dr4.1 hx; have h1 := hf.1; have h2 := hf.2.1; omega)
     refine Qc (A6 (C8 rfl rfl (A5 K4 ‹_› rfl rfl) ?_))
     exact ⟨hC, _, rfl, ha.mono fun z h hzl => ⟨by have := h.1; omega, hzl, by simp⟩⟩
    ·refine Qb (Zc 2 rfl (A4 rfl (fun q3 => ?_) (fun q3 => ?_)))
     ·rw [cmpB_eqlF] at q2
      rw [cmpB_eql] at q3
      have hK : Af5 k s mn mx lz o = o.getD 0 default := by unfold Af5; rw [Dr1 q0, Dr1 q1, Dr2 (.inr q3)]
      rw [hK]
      have hl1 : l.length = 1 := by rcases hk with h | h | h | h | h <;> omega
      obtain ⟨a, ca, rfl, rfl, ha⟩ := hJ.one (by omega)
      have hone := ha.one1
      obtain ⟨a0, a1, a2, a3, a4, a5, a6, rfl⟩ := ha.cells
      obtain ⟨g9, o9, rfl, _, _, hcell9⟩ := (hO.rd (F := fun _ => True) (fun _ _ _ => trivial)).at_ (by omega)
      refine Qd (Z 1 rfl (C7 rfl (B9 Ah3 rfl rfl (by omega) (by omega)) (C7 rfl (E4 (vs := [a0, a1, a2, a3, a4, a5, a6]) K4 rfl (E9 _) (fun j v hj => hcell9 j v (by simpa using hj)) rfl) ?_)))
      refine Pb (cs' := [a0, a1, a2, a3, a4, a5, a6]) Ah1 rfl rfl hB2 rfl rfl hone rfl rfl ?_
      intro w9 hs9 hx9 hB2
      have hC := hC.step hx9 (by simp; omega)
      have ha := ha.q hx9 (by intro x hx hf; have hx := Dr4.1 hx; have h1 := hf.1; have h2 := hf.2.1; omega)
      refine Qc (A6 (C8 rfl rfl (A5 K4 ‹_› rfl rfl) ?_))
      exact ⟨hC, _, rfl, ha.mono fun z h hzl => ⟨by have := h.1; omega, hzl, by simp⟩⟩
     ·rw [cmpB_eqlF] at q2 q3
      refine Qd (Zc 2 rfl (A4 rfl (fun q4 => ?_) (fun q4 => ?_)))
      ·try simp at q4
       have hK : Af5 k s mn mx lz o = R0 2 o := by unfold Af5; rw [Dr1 q0, Dr1 q1, Dr1 (Dz6.2 ⟨q2, q3⟩), Dr2 q4]
       rw [hK]
       refine Qd (Z 1 rfl (Ca fb122 rfl (Co4 2 o l.length hol os A' c' (FR (b2 + 1) w9.heap.size []) _ hcap (by omega) (fun z hz => by have := hz.2.1; omega) (hO.rd fun z h1 h2 => ⟨h1, h2, by simp⟩) (hJ.mono fun z hz hzl => ⟨hz.1, hzl, by simp⟩)) ?_))
       rintro _ w10 ⟨hx10, cs4, rfl, hn4⟩
       have hB2 := hB2.u hx10
       have hn4 := hn4.mono (F' := fun x => x ≠ b2 ∧ True ∧ w.heap.size ≤ x) (fun z h hzl => by rcases h with h | h; exact ⟨by have := h.1; omega, trivial, by have := h.1; omega⟩; exact ⟨by omega, trivial, by omega⟩)
       have hone4 := hn4.one1
       obtain ⟨f0, f1, f2, f3, f4, f5, f6, rfl⟩ := hn4.cells
       refine Pb (cs' := [f0, f1, f2, f3, f4, f5, f6]) Ah1 rfl rfl hB2 rfl rfl hone4 rfl rfl ?_
       intro w11 hs11 hx11 hB2
       have hC := hC.step (hx10.j hx11) (by simp <;> omega)
       have hn4 := hn4.q hx11 (by simp; done)
       refine Qc (A6 (C8 rfl rfl (A5 K4 ‹_› rfl rfl) ?_))
       exact ⟨hC, _, rfl, hn4.mono fun z h hzl => ⟨h.2.2, hzl, by simp⟩⟩
      ·try simp at q4
       refine Qd (Zc 2 rfl (A4 rfl (fun q5 => ?_) (fun q5 => ?_)))
       ·try simp at q5
        have hK : Af5 k s mn mx lz o = R0 3 o := by unfold Af5; rw [Dr1 q0, Dr1 q1, Dr1 (Dz6.2 ⟨q2, q3⟩), Dr1 q4, Dr2 q5]
        rw [hK]
        refine Qd (Z 1 rfl (Ca fb122 rfl (Co4 3 o l.length hol os A' c' (FR (b2 + 1) w9.heap.size []) _ hcap (by omega) (fun z hz => by have := hz.2.1; omega) (hO.rd fun z h1 h2 => ⟨h1, h2, by simp⟩) (hJ.mono fun z hz hzl => ⟨hz.1, hzl, by simp⟩)) ?_))
        rintro _ w12 ⟨hx12, cs4, rfl, hn4⟩
        have hB2 := hB2.u hx12
        have hn4 := hn4.mono (F' := fun x => x ≠ b2 ∧ True ∧ w.heap.size ≤ x) (fun z h hzl => by rcases h with h | h; exact ⟨by have := h.1; omega, trivial, by have := h.1; omega⟩; exact ⟨by omega, trivial, by omega⟩)
        have hone4 := hn4.one1
        obtain ⟨f0, f1, f2, f3, f4, f5, f6, rfl⟩ := hn4.cells
        refine Pb (cs' := [f0, f1, f2, f3, f4, f5, f6]) Ah1 rfl rfl hB2 rfl rfl hone4 rfl rfl ?_
        intro w13 hs13 hx13 hB2
        have hC := hC.step (hx12.j hx13) (by simp <;> omega)
        have hn4 := hn4.q hx13 (by simp; done)
        refine Qc (A6 (C8 rfl rfl (A5 K4 ‹_› rfl rfl) ?_))
        exact ⟨hC, _, rfl, hn4.mono fun z h hzl => ⟨h.2.2, hzl, by simp⟩⟩
       ·try simp at q5
        have hl1 : l.length = 1 := by rcases hk with h | h | h | h | h <;> omega
        have hmn : 0 ≤ mn ∧ mn ≤ 1000 ∧ -1 ≤ mx ∧ mx ≤ 1000 := by rcases hk with h | h | h | h | h <;> omega
        have hK : Af5 k s mn mx lz o = R0 2 (List.replicate mn.toNat (o.getD 0 default) ++ Bh5 mn mx lz o) := by unfold Af5; rw [Dr1 q0, Dr1 q1, Dr1 (Dz6.2 ⟨q2, q3⟩), Dr1 q4, Dr1 q5]
        rw [hK]
        obtain ⟨a, ca, rfl, rfl, ha⟩ := hJ.one (by omega)
        have hone := ha.one1
        obtain ⟨a0, a1, a2, a3, a4, a5, a6, rfl⟩ := ha.cells
        clear hOb
        have hq := ha.mono (F' := FR (b2 + 1) w9.heap.size []) (fun z hz hzl => ⟨hz.1, hzl, by simp⟩)
        have hrd := hO.rd (F := FR (b2 + 1) w9.heap.size []) (fun z h1 h2 => ⟨h1, h2, by simp⟩)
        rw [hl1] at hrd hcap
        rw [show ([a] : List R8).getD 0 default = a from rfl]
        refine A7 (Qd (Zc 1 rfl (Qa (Qd (Zc 1 rfl (B0 (D7 (σ := Nat × Option Addr × Nat) (fun (i, A2, c2) => [(1, .pointer (some ⟨b1, 0, none⟩)), (2, .pointer (some ⟨b2, 0, none⟩)), (3, .slice A' l.length c'), (5, .slice A2 i c2), (6, .int .i64 (i : Nat))]) (fun (i, A2, c2) wr => Chg [] w wr ∧ Blk wr b1 (n6C k s mn mx lz A l.length c fr tl) 140 ∧ Blk wr b2 [.int .i64 0, .int .u64 0, .int .u64 0, .int .u64 0, .int .u64 0, .bool false, .slice none 0 0] 73 ∧ Rd (FR (b2 + 1) w9.heap.size []) wr 7 A' 1 (List.flatten [[a0, a1, a2, a3, a4, a5, a6]]) ∧ N8 (FR (b2 + 1) w9.heap.size []) wr a [a0, a1, a2, a3, a4, a5, a6] ∧ Own wr w9.heap.size 73 7 A2 i c2 (List.flatten (List.replicate i [a0, a1, a2, a3, a4, a5, a6])) ∧ i ≤ mn.toNat ∧ w9.heap.size ≤ wr.heap.size) (fun (i, A2, c2) wr => mn.toNat - i) (0, none, 0) (sb rfl) ?_ ?_)))))))
        ·exact ⟨hC, hB1, hB2, hrd, hq, Own.nil _ _ _ _, Ds0 _, Ds3 _⟩
        rintro ⟨i, A2, c2⟩ w10 ⟨hC, hB1, hB2, hrd, hq, hO2, hi, hz910⟩
        have hOb := hO2.blk
        try have hlB2 := hB2.lt
        refine Qa (Qd (Z 1 rfl (Fa Aj4 rfl (Lb o3 rfl ‹_› (by rfl) ?_))))
        refine Zc 1 rfl (A4 rfl (fun g1 => ?_) (fun g1 => ?_))
        ·try simp at g1
         obtain ⟨g9, o9, hE9, _, _, hcell9⟩ := hrd.at_ (by omega)
         subst hE9
         refine A7 (Qa (B0 (Qb (Z 2 rfl (C7 rfl (B9 Ah3 rfl rfl (by omega) (by omega)) (C7 rfl (E4 (vs := [a0, a1, a2, a3, a4, a5, a6]) K4 rfl (E9 _) (fun j v hj => hcell9 j v (by simpa using hj)) rfl) ?_))))))
         refine B4 rfl (B5 Ah3 Tryz.underlying71 Ak8 rfl rfl rfl (by rfl)) ?_
         intro b14 w14 hb14 hs14 hx14 hB14
         have hC := hC.s0 hx14
         have hB1 := hB1.u hx14
         have hB2 := hB2.u hx14
         have hrd := hrd.u hx14
         have hq := hq.u hx14
         have hO2 := hO2.u hx14
         refine G5 rfl el71 rfl rfl hO2 (Blk.rd (F := fun _ => True) ‹_› rfl trivial) ‹_› (by omega) (by omega) ?_
         intro A3' c3' w15 hO15 hx15 hA3'
         have hz15 := hx15.size
         have hC := hC.step hx15 (by intro x h; have := hOb x h; exact .inr (by omega))
         have hB1 := hB1.q hx15 (by intro h; have := hOb _ h; omega)
         have hB2 := hB2.q hx15 (by intro h; have := hOb _ h; omega)
         have hrd := hrd.q hx15 (by intro x hx hf; have := hOb x hx; have h1 := hf.1; have h2 := hf.2.1; omega)
         have hq := hq.q hx15 (by intro x hx hf; have := hOb x hx; have h1 := hf.1; have h2 := hf.2.1; omega)
         replace hO2 := hO15
         refine Zc 1 rfl (Qb (Z 1 rfl (Ad rfl rfl (by omega) (Zc 1 rfl ⟨(i + 1, A3', c3'), sb rfl, ?_, ?_⟩))))
         exact ⟨hC, hB1, hB2, hrd, hq, by rw [List.replicate_succ', Dy4]; exact hO2, by omega, by omega⟩
         show mn.toNat - (i + 1) < mn.toNat - i
         omega
        ·try simp at g1
         have hii : i = mn.toNat := by omega
         subst hii
         refine Xb (I1 (fun e9 wr => ∃ t2 os2 A3 c3, Sub [(2, .pointer (some ⟨b2, 0, none⟩)), (5, .slice A3 t2.length c3)] e9 ∧ Chg [] w wr ∧ Blk wr b2 [.int .i64 0, .int .u64 0, .int .u64 0, .int .u64 0, .int .u64 0, .bool false, .slice none 0 0] 73 ∧ Own wr w9.heap.size 73 7 A3 t2.length c3 (List.flatten os2) ∧ N8r (FR (b2 + 1) wr.heap.size []) wr t2 os2 ∧ t2 = List.replicate mn.toNat a ++ Bh5 mn mx lz [a] ∧ w9.heap.size ≤ wr.heap.size) ?_ ?_)
         ·refine Qd (Fa Au4 rfl (Lb o3 rfl ‹_› (by rfl) ?_))
          refine Zc 1 rfl (A4 rfl (fun g2 => ?_) (fun g2 => ?_))
          ·try simp at g2
           refine Qb (Z 1 rfl (Fa Dl6 rfl (Lb o4 rfl ‹_› (by rfl) ?_)))
           refine Z 1 rfl (C7 rfl (A9 Ak8 Co8 rfl (by rfl)) ?_)
           refine B4 rfl (B5 Ah3 Tryz.underlying71 Ak8 rfl rfl rfl (by rfl)) ?_
           intro b16 w16 hb16 hs16 hx16 hB16
           have hC := hC.s0 hx16
           have hB2 := hB2.u hx16
           have hrd := hrd.u hx16
           have hq := hq.u hx16
           have hO2 := hO2.u hx16
           refine G5 rfl el71 rfl rfl hO2 (Blk.rd (F := fun _ => True) ‹_› rfl trivial) (by rfl) (by omega) (by omega) ?_
           intro A3' c3' w17 hO17 hx17 hA3'
           have hz17 := hx17.size
           have hC := hC.step hx17 (by intro x h; have := hOb x h; exact .inr (by omega))
           have hB2 := hB2.q hx17 (by intro h; have := hOb _ h; omega)
           have hrd := hrd.q hx17 (by intro x hx hf; have := hOb x hx; have h1 := hf.1; have h2 := hf.2.1; omega)
           have hq := hq.q hx17 (by intro x hx hf; have := hOb x hx; have h1 := hf.1; have h2 := hf.2.1; omega)
           replace hO2 := hO17
           refine Zc 1 rfl ⟨(List.replicate mn.toNat a ++ [.node 4 0 lz [a]]), (List.replicate mn.toNat [a0, a1, a2, a3, a4, a5, a6] ++ [n8C 4 0 lz A' 1 c']), A3', c3', ⟨rfl, (S6 rfl (by simp)), trivial⟩, ?_⟩
           refine ⟨hC, hB2, by rw [Dr7, Du6, Dy4]; unfold n8C; rw [C3, ← hl1]; exact hO2, N8r.snoc ((Bu6 hq _).mono fun z hz hzl => ⟨hz.1, hzl, by simp⟩) (n8_node 4 0 lz (hrd.mono fun z hz hzl => ⟨hz.1, hzl, by simp⟩) ?_), by unfold Bh5; rw [Dr2 g2], by omega⟩
           rw [N8r]
           exact ⟨_, [], rfl, hq.mono fun z hz hzl => ⟨hz.1, hzl, by simp⟩, by rw [N8r]⟩
          ·try simp at g2
           refine Qd (Fa Au4 rfl (Lb o3 rfl ‹_› (by rfl) ?_))
           refine Fa Aj4 rfl (Lb o3 rfl ‹_› (by rfl) ?_)
           refine Zc 1 rfl (A4 rfl (fun g3 => ?_) (fun g3 => ?_))
           ·try simp at g3
            refine C6 (S := []) 13 [(0, 0), (0, 1), (0, 2), (0, 3), (0, 4), (0, 5), (0, 6), (0, 7), (0, 8), (0, 9), (0, 10), (1, 11), (1, 12), (2, 13), (2, 14)] mo (by kernel_rfl) ?_
            intro w18 hx18 hh18
            have hB1 := hB1.u hx18
            have hrd := hrd.u hx18
            have hq := hq.u hx18
            have hCS18 := A8 ([]) w18
            obtain ⟨g9, o9, hE9, _, hlt9, hcell9⟩ := hrd.at_ (by omega)
            subst hE9
            refine Z 2 rfl (D5 rfl (B9 Ah3 rfl rfl (by omega) (by omega)) (D5 rfl (J0 (vs := [a0, a1, a2, a3, a4, a5, a6]) K4 rfl ⟨hlt9, fun j v hj => hcell9 j v (by simpa using hj)⟩ (by simp; done) rfl) ?_))
            refine Fa Au4 rfl (D5 rfl (B2 o3 rfl ‹_› (by simp; done) (by rfl)) ?_)
            refine Fa Aj4 rfl (D5 rfl (B2 o3 rfl ‹_› (by simp; done) (by rfl)) ?_)
            refine Su rfl rfl (by omega) (Fa Dl6 rfl (D5 rfl (B2 o4 rfl ‹_› (by simp; done) (by rfl)) ?_))
            refine C4 rfl (C0 fb123 rfl) (Bx1 a lz ((mx - mn).toNat - 1) (by omega) _ (FR (b2 + 1) w9.heap.size []) _ _ (by omega) (fun z hz => by have := hz.2.1; omega) hq) ?_
            rintro _ w19 ⟨hx19, cs4, rfl, hn4⟩
            have hz19 := hx19.size
            have hCS18 := hCS18.s0 hx19
            refine ⟨hCS18, ?_⟩
            have hone4 := hn4.one1
            generalize hce : S3 a lz ((mx - mn).toNat - 1) = q at *
            obtain ⟨f0, f1, f2, f3, f4, f5, f6, rfl⟩ := hn4.cells
            have hn4 := hn4.mono (F' := fun z => z ∉ F6 A2 ∧ b2 + 1 ≤ z) (fun z h hzl => by rcases h with h | h; exact ⟨fun hm => by have := hOb z hm; have := h.2.1; omega, h.1⟩; exact ⟨fun hm => by have := hOb z hm; omega, by omega⟩)
            have hNb : ∀ z ∈ F6 A2, ¬ (z ∉ F6 A2 ∧ b2 + 1 ≤ z) := fun z h1 h2 => h2.1 h1
            refine D9 rfl (B5 Ah3 Tryz.underlying71 Ak8 rfl rfl rfl (by rfl)) ?_
            intro b20 w20 hb20 hs20 hx20 hB20
            have hC := hC.s0 ((hx18.s0 hx19).s0 hx20)
            have hB2 := hB2.u ((hx18.s0 hx19).s0 hx20)
            have hq := hq.u (hx19.s0 hx20)
            have hO2 := hO2.u ((hx18.s0 hx19).s0 hx20)
            have hCS18 := hCS18.s0 hx20
            have hn4 := hn4.u hx20
            refine ⟨hCS18, ?_⟩
            refine G5 rfl el71 rfl rfl hO2 (Blk.rd (F := fun _ => True) ‹_› rfl trivial) ‹_› (by omega) (by omega) ?_
            intro A3' c3' w21 hO21 hx21 hA3'
            have hz21 := hx21.size
            have hC := hC.step hx21 (by intro x h; have := hOb x h; exact .inr (by omega))
            have hB2 := hB2.q hx21 (by intro h; have := hOb _ h; omega)
            have hq := hq.q hx21 (by intro x hx hf; have := hOb x hx; have h1 := hf.1; have h2 := hf.2.1; omega)
            have hn4 := hn4.q hx21 ‹_›
            replace hO2 := hO21
            refine Zc 1 rfl ⟨(List.replicate mn.toNat a ++ [q]), (List.replicate mn.toNat [a0, a1, a2, a3, a4, a5, a6] ++ [[f0, f1, f2, f3, f4, f5, f6]]), A3', c3', ⟨rfl, (S6 rfl (by simp)), trivial⟩, ?_⟩
            refine ⟨hC, hB2, by rw [Dr7, Du6, Dy4]; exact hO2, N8r.snoc ((Bu6 hq _).mono fun z hz hzl => ⟨hz.1, hzl, by simp⟩) (hn4.mono fun z hz hzl => ⟨hz.2, hzl, by simp⟩), by unfold Bh5; rw [Dr1 g2, Dr2 g3]; show _ = _ ++ [S3 a lz _]; rw [hce], by omega⟩
           ·try simp at g3
            refine A7 ⟨(List.replicate mn.toNat a), (List.replicate mn.toNat [a0, a1, a2, a3, a4, a5, a6]), A2, c2, ⟨rfl, (S6 rfl (by simp)), trivial⟩, ?_⟩
            refine ⟨hC, hB2, by rw [Du6]; exact hO2, (Bu6 hq _).mono fun z hz hzl => ⟨hz.1, hzl, by simp⟩, by unfold Bh5; rw [Dr1 g2, Dr1 (by omega), Dx4], by omega⟩
         rintro e9 w20 ⟨t2, os2, A3, c3, hs9, hC, hB2, hO2, hJ2, ht2, hz920⟩
         refine I0 _ hs9 ?_
         clear hs9 e9
         have hcap2 := hO2.cap
         have hl2' : t2.length ≤ 1000000 := by
          rw [ht2, Dr7, Du6]
          have : (Bh5 mn mx lz [a]).length ≤ 1 := by unfold Bh5; split; simp; split <;> simp
          omega
         try have hlB2 := hB2.lt
         rw [← ht2]
         refine Qd (Z 1 rfl (Ca fb122 rfl (Bp8 2 t2 os2 A3 c3 (FR (b2 + 1) w20.heap.size []) _ hcap2 hl2' (fun z hz => by have := hz.2.1; omega) (hO2.rd fun z h1 h2 => ⟨by omega, h2, by simp⟩) hJ2) ?_))
         rintro _ w22 ⟨hx22, cs4, rfl, hn4⟩
         have hB2 := hB2.u hx22
         have hn4 := hn4.mono (F' := fun x => x ≠ b2 ∧ True ∧ w.heap.size ≤ x) (fun z h hzl => by rcases h with h | h; exact ⟨by have := h.1; omega, trivial, by have := h.1; omega⟩; exact ⟨by omega, trivial, by omega⟩)
         have hone4 := hn4.one1
         obtain ⟨f0, f1, f2, f3, f4, f5, f6, rfl⟩ := hn4.cells
         refine Pb (cs' := [f0, f1, f2, f3, f4, f5, f6]) Ah1 rfl rfl hB2 rfl rfl hone4 rfl rfl ?_
         intro w23 hs23 hx23 hB2
         have hC := hC.step (hx22.j hx23) (by simp <;> omega)
         have hn4 := hn4.q hx23 (by simp; done)
         refine Qc (A6 (C8 rfl rfl (A5 K4 ‹_› rfl rfl) ?_))
         exact ⟨hC, _, rfl, hn4.mono fun z h hzl => ⟨h.2.2, hzl, by simp⟩⟩
mutual
theorem Do0 : ∀ t : R6, G6 t → Cu3 t
 | .node k s mn mx lz l fr tl, h => by
  rw [G6] at h
  exact Dn9 k s mn mx lz l fr tl h.1 (Cs6 l h.2)
theorem Cs6 : ∀ l : List R6, G6s l → ∀ i, i < l.length → Cu3 (l.getD i default)
 | [], _, i, hi => absurd hi (by simp)
 | t :: r, h, 0, _ => by rw [G6s] at h; exact Do0 t h.1
 | t :: r, h, i + 1, hi => by rw [G6s] at h; rw [Ds7]; exact Cs6 r h.2 i (by simpa using hi)
end
theorem Bp2 : C1 (2 ^ 256 - 1) = [.int .u64 18446744073709551615, .int .u64 18446744073709551615, .int .u64 18446744073709551615, .int .u64 18446744073709551615] := by
 rfl
theorem rmode_c (r : R8) (m : Int) (cs : List Value) (F : Nat → Prop) (w : World) (hF : ∀ x, F x → x < w.heap.size) (hr : N8 F w r cs) : Calls P 90 #[.agg cs.toArray, .int .i64 m] w (Ret fun u w' => Chg [] w w' ∧ ∃ cs', u = .agg cs'.toArray ∧ N8 (fun x => F x ∨ (w.heap.size ≤ x ∧ x < w'.heap.size)) w' (Al1 r m) cs') := by
 have hC := A8 [] w
 have hone := hr.one1
 obtain ⟨a0, a1, a2, a3, a4, a5, a6, rfl⟩ := hr.cells
 refine D3 Tryz.func90 rfl rfl (Qd (B4 rfl (E0 rfl rfl) ?_))
 intro b1 w1 hb1 hs1 hx1 hB1
 refine B4 rfl (B6 Ak8 rfl) ?_
 intro b2 w2 hb2 hs2 hx2 hB2
 refine Qc (Qd (C7 rfl (D4 K5 An8 rfl (by rfl)) ?_))
 refine C7 rfl (A9 Ak8 Co8 rfl (by rfl)) ?_
 refine B4 rfl (B5 Ah3 Tryz.underlying71 Ak8 rfl rfl rfl (by rfl)) ?_
 intro b3 w3 hb3 hs3 hx3 hB3
 refine C7 rfl (A9 Ak8 Co8 rfl (by rfl)) ?_
 refine B4 rfl (B6 Ak8 rfl) ?_
 intro b4 w4 hb4 hs4 hx4 hB4
 have hr := hr.u (((hx1.s0 hx2).s0 hx3).s0 hx4)
 refine Pe Ah1 rfl ‹_› rfl rfl ?_
 intro w5 hs5 hx5 hB4
 have hC := hC.step ((((hx1.j hx2).j hx3).j hx4).j hx5) (by simp <;> omega)
 have hr := hr.q hx5 (by intro b hb hFb; have := hF _ hFb; simp at hb; omega)
 have hB1 := hB1.q (((hx2.j hx3).j hx4).j hx5) (by simp <;> omega)
 have hB2 := hB2.q ((hx3.j hx4).j hx5) (by simp <;> omega)
 have hB3 := hB3.q (hx4.j hx5) (by simp <;> omega)
 refine Qc (Qa (Qd ?_))
 have hr2 := hr.mono (F' := fun z => (z ≠ b2 ∧ True ∧ (F z ∨ w.heap.size ≤ z))) (fun z h hzl => ⟨by have := hF z h; omega, trivial, .inl h⟩)
 have hrs : N8 (fun z => (z ≠ b2 ∧ True ∧ (F z ∨ w.heap.size ≤ z))) w5 Ah9 [.int .i64 4, .int .u64 0, .int .u64 0, .int .u64 0, .int .u64 0, .bool true, .slice (some ⟨b3, 0, none⟩) 1 1] := by
  have h1 : N8 (fun _ => False) w5 (.node 1 (2 ^ 256 - 1) false []) (n8C 1 (2 ^ 256 - 1) false none 0 0) := Cg9 _ _ _
  unfold n8C at h1
  rw [Bp2] at h1
  have h2 := n8_one (F := fun z => (z ≠ b2 ∧ True ∧ (F z ∨ w.heap.size ≤ z))) 4 0 true hB3 ⟨by omega, trivial, .inr (by omega)⟩ h1 (fun z h _ => h.elim)
  unfold n8C at h2
  rw [C3] at h2
  exact h2
 refine Zc 1 rfl (B0 (Qd (Zc 2 rfl (A4 rfl (fun m1 => ?_) (fun m1 => ?_)))))
 ·try simp at m1
  rw [show Al1 r m = Ac6 2 r Ah9 by unfold Al1; rw [Dr2 m1]]
  have hr2p := hr2.mono (F' := fun z => z < w5.heap.size ∧ (z ≠ b2 ∧ True ∧ (F z ∨ w.heap.size ≤ z))) (fun z h hzl => ⟨hzl, h⟩)
  have hrsq := hrs.mono (F' := fun z => z < w5.heap.size ∧ (z ≠ b2 ∧ True ∧ (F z ∨ w.heap.size ≤ z))) (fun z h hzl => ⟨hzl, h⟩)
  refine Qd (La K4 rfl ‹_› rfl rfl ?_)
  refine La K4 rfl ‹_› rfl rfl ?_
  refine Ca Ca6 rfl (Ah8 2 r Ah9 [a0, a1, a2, a3, a4, a5, a6] [.int .i64 4, .int .u64 0, .int .u64 0, .int .u64 0, .int .u64 0, .bool true, .slice (some ⟨b3, 0, none⟩) 1 1] _ _ (fun z hz => hz.1) hr2p hrsq) ?_
  rintro _ w6 ⟨hx6, chn4, rfl, hn4⟩
  have hB2 := hB2.u hx6
  have hn4 := hn4.mono (F' := fun z => (z ≠ b2 ∧ True ∧ (F z ∨ w.heap.size ≤ z))) (fun z h hzl => by rcases h with h | h; exact h.2; exact ⟨by omega, trivial, .inr (by omega)⟩)
  have hone4 := hn4.one1
  obtain ⟨f0, f1, f2, f3, f4, f5, f6, rfl⟩ := hn4.cells
  refine Pb (cs' := [f0, f1, f2, f3, f4, f5, f6]) Ah1 rfl rfl hB2 rfl rfl hone4 rfl rfl ?_
  intro w7 hs7 hx7 hB2
  have hC := hC.step (hx6.j hx7) (by simp <;> omega)
  have hn4 := hn4.q hx7 (by simp; done)
  refine Qc (A6 (C8 rfl rfl (A5 K4 ‹_› rfl rfl) ?_))
  exact ⟨hC, _, rfl, hn4.mono fun z h hzl => by rcases h.2.2 with h | h; exact .inl h; exact .inr ⟨by omega, hzl⟩⟩
 ·try simp at m1
  refine Qd (Zc 2 rfl (A4 rfl (fun m2 => ?_) (fun m2 => ?_)))
  ·try simp at m2
   rw [show Al1 r m = Ac6 2 Ah9 r by unfold Al1; rw [Dr1 m1, Dr2 m2]]
   have hrsp := hrs.mono (F' := fun z => z < w5.heap.size ∧ (z ≠ b2 ∧ True ∧ (F z ∨ w.heap.size ≤ z))) (fun z h hzl => ⟨hzl, h⟩)
   have hr2q := hr2.mono (F' := fun z => z < w5.heap.size ∧ (z ≠ b2 ∧ True ∧ (F z ∨ w.heap.size ≤ z))) (fun z h hzl => ⟨hzl, h⟩)
   refine Qd (La K4 rfl ‹_› rfl rfl ?_)
   refine La K4 rfl ‹_› rfl rfl ?_
   refine Ca Ca6 rfl (Ah8 2 Ah9 r [.int .i64 4, .int .u64 0, .int .u64 0, .int .u64 0, .int .u64 0, .bool true, .slice (some ⟨b3, 0, none⟩) 1 1] [a0, a1, a2, a3, a4, a5, a6] _ _ (fun z hz => hz.1) hrsp hr2q) ?_
   rintro _ w8 ⟨hx8, chn4, rfl, hn4⟩
   have hB2 := hB2.u hx8
   have hn4 := hn4.mono (F' := fun z => (z ≠ b2 ∧ True ∧ (F z ∨ w.heap.size ≤ z))) (fun z h hzl => by rcases h with h | h; exact h.2; exact ⟨by omega, trivial, .inr (by omega)⟩)
   have hone4 := hn4.one1
   obtain ⟨f0, f1, f2, f3, f4, f5, f6, rfl⟩ := hn4.cells
   refine Pb (cs' := [f0, f1, f2, f3, f4, f5, f6]) Ah1 rfl rfl hB2 rfl rfl hone4 rfl rfl ?_
   intro w9 hs9 hx9 hB2
   have hC := hC.step (hx8.j hx9) (by simp <;> omega)
   have hn4 := hn4.q hx9 (by simp; done)
   refine Qc (A6 (C8 rfl rfl (A5 K4 ‹_› rfl rfl) ?_))
   exact ⟨hC, _, rfl, hn4.mono fun z h hzl => by rcases h.2.2 with h | h; exact .inl h; exact .inr ⟨by omega, hzl⟩⟩
  ·try simp at m2
   refine Qd (Zc 2 rfl (A4 rfl (fun m3 => ?_) (fun m3 => ?_)))
   ·try simp at m3
    rw [show Al1 r m = Ac6 2 Ah9 (Ac6 2 r Ah9) by unfold Al1; rw [Dr1 m1, Dr1 m2, Dr2 m3]]
    refine Qa (C6 (S := []) 4 [(0, 0), (0, 1), (0, 2), (1, 3), (2, 4), (2, 5)] mo (by kernel_rfl) ?_)
    intro w10 hx10 hh10
    have hB1 := hB1.u hx10
    have hB4 := hB4.u hx10
    have hr2 := hr2.u hx10
    have hrs := hrs.u hx10
    have hCS10 := A8 ([]) w10
    have hr2p := hr2.mono (F' := fun z => z < w10.heap.size ∧ (z ≠ b2 ∧ True ∧ (F z ∨ w.heap.size ≤ z))) (fun z h hzl => ⟨hzl, h⟩)
    have hrsq := hrs.mono (F' := fun z => z < w10.heap.size ∧ (z ≠ b2 ∧ True ∧ (F z ∨ w.heap.size ≤ z))) (fun z h hzl => ⟨hzl, h⟩)
    refine D5 rfl (B8 K4 rfl ‹_› (by simp; done) rfl rfl) ?_
    refine D5 rfl (B8 K4 rfl ‹_› (by simp; done) rfl rfl) ?_
    refine D5 rfl (B8 K4 rfl ‹_› (by simp; done) rfl rfl) ?_
    refine C4 rfl (C0 Ca6 rfl) (Ah8 2 r Ah9 [a0, a1, a2, a3, a4, a5, a6] [.int .i64 4, .int .u64 0, .int .u64 0, .int .u64 0, .int .u64 0, .bool true, .slice (some ⟨b3, 0, none⟩) 1 1] _ _ (fun z hz => hz.1) hr2p hrsq) ?_
    rintro _ w11 ⟨hx11, chn5, rfl, hn5⟩
    have hz11 := hx11.size
    have hrs := hrs.u hx11
    have hCS10 := hCS10.s0 hx11
    refine ⟨hCS10, ?_⟩
    have hn5 := hn5.mono (F' := fun z => (z ≠ b2 ∧ True ∧ (F z ∨ w.heap.size ≤ z))) (fun z h hzl => by rcases h with h | h; exact h.2; exact ⟨by omega, trivial, .inr (by omega)⟩)
    have hrsp := hrs.mono (F' := fun z => z < w11.heap.size ∧ (z ≠ b2 ∧ True ∧ (F z ∨ w.heap.size ≤ z))) (fun z h hzl => ⟨hzl, h⟩)
    have hn5q := hn5.mono (F' := fun z => z < w11.heap.size ∧ (z ≠ b2 ∧ True ∧ (F z ∨ w.heap.size ≤ z))) (fun z h hzl => ⟨hzl, h⟩)
    refine Ca Ca6 rfl (Ah8 2 Ah9 (Ac6 2 r Ah9) [.int .i64 4, .int .u64 0, .int .u64 0, .int .u64 0, .int .u64 0, .bool true, .slice (some ⟨b3, 0, none⟩) 1 1] chn5 _ _ (fun z hz => hz.1) hrsp hn5q) ?_
    rintro _ w12 ⟨hx12, chn6, rfl, hn6⟩
    have hB2 := hB2.u ((hx10.s0 hx11).s0 hx12)
    have hn6 := hn6.mono (F' := fun z => (z ≠ b2 ∧ True ∧ (F z ∨ w.heap.size ≤ z))) (fun z h hzl => by rcases h with h | h; exact h.2; exact ⟨by omega, trivial, .inr (by omega)⟩)
    have hone4 := hn6.one1
    obtain ⟨f0, f1, f2, f3, f4, f5, f6, rfl⟩ := hn6.cells
    refine Pb (cs' := [f0, f1, f2, f3, f4, f5, f6]) Ah1 rfl rfl hB2 rfl rfl hone4 rfl rfl ?_
    intro w13 hs13 hx13 hB2
    have hC := hC.step (((hx10.j hx11).j hx12).j hx13) (by simp <;> omega)
    have hn6 := hn6.q hx13 (by simp; done)
    refine Qc (A6 (C8 rfl rfl (A5 K4 ‹_› rfl rfl) ?_))
    exact ⟨hC, _, rfl, hn6.mono fun z h hzl => by rcases h.2.2 with h | h; exact .inl h; exact .inr ⟨by omega, hzl⟩⟩
   ·try simp at m3
    rw [show Al1 r m = r by unfold Al1; rw [Dr1 m1, Dr1 m2, Dr1 m3]]
    refine A7 (Qd (La K4 rfl ‹_› rfl rfl ?_))
    refine Pb (cs' := [a0, a1, a2, a3, a4, a5, a6]) Ah1 rfl rfl hB2 rfl rfl hone rfl rfl ?_
    intro w14 hs14 hx14 hB2
    have hC := hC.step hx14 (by simp; omega)
    have hr2 := hr2.q hx14 (by simp; done)
    refine Qc (A6 (C8 rfl rfl (A5 K4 ‹_› rfl rfl) ?_))
    exact ⟨hC, _, rfl, hr2.mono fun z h hzl => by rcases h.2.2 with h | h; exact .inl h; exact .inr ⟨by omega, hzl⟩⟩
def Ct5 (t : R6) : Prop := ∀ (cs : List Value) (F : Nat → Prop) (w : World), (∀ x, F x → x < w.heap.size) → N6 F w t cs → Calls P 89 #[.agg cs.toArray] w (Ret fun u w' => u = .int .i64 (clp (szR t)) ∧ Chg [] w w')
theorem Dd0 (l : List R6) (i : Nat) (h : i < l.length) : Az8 (l.take (i + 1)) = Az8 (l.take i) + szR (l.getD i default) := by
 induction l generalizing i with
 | nil => simp at h
 | cons t r ih =>
  cases i with
  | zero => simp [Az8]
  | succ i =>
   have := ih i (by simpa using h)
   simp only [Dw8, Az8, Ds7, this]
   omega
theorem De5 (a : Nat) : Y2 (clp a) 1 = clp (a + 1) := by unfold Y2 clp; omega
theorem De4 (a : Nat) : Y2 (clp a) 2 = clp (a + 2) := by unfold Y2 clp; omega
theorem Cf5 (a : Nat) (n : Int) (h : 0 ≤ n) : Y2 (clp a) n = clp (a + n.toNat) := by unfold Y2 clp; omega
theorem Dd6 (k : Int) (s : Nat) (mn mx : Int) (lz : Bool) (l : List R6) (fr tl : Int) (hk : K6 k mn mx l.length) (hc : ∀ i, i < l.length → Ct5 (l.getD i default)) : Ct5 (.node k s mn mx lz l fr tl) := by
 intro cs F w hF hN
 have hC := A8 [] w
 have hl2 : l.length ≤ 200000 := by rcases hk with h | h | h | h | h <;> omega
 rw [N6] at hN
 obtain ⟨A, c, css, rfl, hr, hI⟩ := hN
 refine D3 Tryz.func89 rfl rfl (Qd (B4 rfl (E0 rfl rfl) ?_))
 intro b1 w1 hb1 hs1 hx1 hB1
 have hC := hC.s0 hx1
 have hr := hr.u hx1
 have hI := hI.u hx1
 refine Zc 1 rfl (Qa (Qd (Fa Cj4 rfl (Lb o3 rfl ‹_› (by rfl) ?_))))
 refine Zc 1 rfl (A4 rfl (fun q0 => ?_) (fun q0 => ?_))
 ·try simp at q0
  have hE : szR (.node k s mn mx lz l fr tl) = 1 := by rw [szR, Dr2 q0]
  exact Qd (Zc 1 rfl (A6 (B1 rfl rfl ⟨I9 (by rw [hE]; rfl), hC⟩)))
 ·try simp at q0
  refine A7 (Qd (Zc 1 rfl (Qa (Qd (Fa Cj4 rfl (Lb o3 rfl ‹_› (by rfl) ?_))))))
  refine Zc 1 rfl (A4 rfl (fun q6 => ?_) (fun q6 => ?_))
  ·try simp at q6
   have hl1 : l.length = 1 := by rcases hk with h | h | h | h | h <;> omega
   have hmn : 0 ≤ mn ∧ mn ≤ 1000 ∧ -1 ≤ mx ∧ mx ≤ 1000 := by rcases hk with h | h | h | h | h <;> omega
   have hE : szR (.node k s mn mx lz l fr tl) = (if mn.toNat + (if mx = -1 then 1 else 0) + (if mn < mx then 1 else 0) = 0 then 1 else mn.toNat * Az8 l + (if mx = -1 then Az8 l + 1 else 0) + (if mn < mx then (mx - mn).toNat * (Az8 l + 2) + ((mx - mn).toNat - 1) else 0) + (mn.toNat + (if mx = -1 then 1 else 0) + (if mn < mx then 1 else 0) - 1)) := by rw [szR, Dr1 (by omega), Dr2 q6]
   rw [hE]
   have hS0 : szR (l.getD 0 default) = Az8 l := by
    match l, hl1 with
    | [a], _ => simp [Az8]
   have hI0 := hI.get 0 (by omega)
   have hlen := hI0.len
   obtain ⟨gA, off, rfl, hFg, hlt, hcell⟩ := hr.at_ (by omega)
   refine Qd (Fa Au3 rfl (Lb o138 rfl ‹_› (by rfl) ?_))
   refine C7 rfl (B9 Ao5 rfl rfl (by omega) (by omega)) (C7 rfl (E4 (vs := css.getD 0 []) Aj7 rfl (E9 _) (fun j v hj => by have := hcell (0 * 11 + j) v (hI.row 0 (by omega) j v hj); simpa using this) hlen) ?_)
   refine Ca fb89 rfl (hc 0 (by omega) (css.getD 0 []) F _ (fun z hz => by have := hF z hz; omega) hI0) ?_
   rintro _ w2 ⟨rfl, hx2⟩
   have hC := hC.s0 hx2
   have hB1 := hB1.u hx2
   rw [hS0]
   generalize Az8 l = S at *
   refine Zc 1 rfl (Qd (Fa Aj4 rfl (Lb o3 rfl ‹_› (by rfl) ?_)))
   refine Zc 1 rfl (Qa (Qd (Zc 1 rfl (B0 (D7 (σ := Nat) (fun i => [(1, .pointer (some ⟨b1, 0, none⟩)), (3, .int .i64 (clp (i * S))), (4, .int .i64 (clp S)), (5, .int .i64 mn), (6, .int .i64 (i : Nat))]) (fun i wr => Chg [] w wr ∧ Blk wr b1 (n6C k s mn mx lz (some ⟨gA, off, none⟩) l.length c fr tl) 140 ∧ i ≤ mn.toNat) (fun i wr => mn.toNat - i) 0 ⟨rfl, (F9 rfl (by rw [Nat.zero_mul]; rfl)), rfl, rfl, rfl, trivial⟩ ?_ ?_)))))
   ·exact ⟨hC, hB1, Ds0 _⟩
   rintro i w9 ⟨hC, hB1, hi⟩
   have hcS := Ar6 S
   have hciS := Ar6 (i * S)
   try have hzw := hC.size
   try have hlB1 := hB1.lt
   refine Qa (Qd (Z 1 rfl (Fa Aj4 rfl (Lb o3 rfl ‹_› (by rfl) ?_))))
   refine Zc 1 rfl (A4 rfl (fun g1 => ?_) (fun g1 => ?_))
   ·try simp at g1
    refine A7 (Qa (B0 (Qb (Z 2 rfl (Ca Ce3 rfl (X1 (clp (i * S)) (clp S) hciS.2 hcS.2 _) ?_)))))
    rintro _ _ ⟨rfl, rfl⟩
    refine Zc 1 rfl (Qb (Z 1 rfl (Ad rfl rfl (by omega) (Zc 1 rfl ⟨i + 1, ⟨rfl, (F9 rfl (by rw [Ao7, Ea8])), rfl, rfl, rfl, trivial⟩, ?_, ?_⟩))))
    exact ⟨hC, hB1, by omega⟩
    show mn.toNat - (i + 1) < mn.toNat - i
    omega
   ·try simp at g1
    have hii : i = mn.toNat := by omega
    subst hii
    generalize hX0 : mn.toNat * S = X0 at *
    refine Xb (I1 (fun e9 wr => Sub [(1, .pointer (some ⟨b1, 0, none⟩)), (3, .int .i64 (clp (X0 + (if mx = -1 then S + 1 else 0)))), (4, .int .i64 (clp S)), (5, .int .i64 (mn + (if mx = -1 then 1 else 0)))] e9 ∧ Chg [] w wr ∧ Blk wr b1 (n6C k s mn mx lz (some ⟨gA, off, none⟩) l.length c fr tl) 140) ?_ ?_)
    ·refine Qd (Fa Au4 rfl (Lb o3 rfl ‹_› (by rfl) ?_))
     refine Zc 1 rfl (A4 rfl (fun g2 => ?_) (fun g2 => ?_))
     ·try simp at g2
      refine Qd (Z 2 rfl (Ca Ce3 rfl (X1 (clp S) 1 hcS.2 (by omega) _) ?_))
      rintro _ _ ⟨rfl, rfl⟩
      refine Ca Ce3 rfl (X1 (clp X0) (Y2 (clp S) 1) hciS.2 (L4 _ _).2 _) ?_
      rintro _ _ ⟨rfl, rfl⟩
      refine Zc 1 rfl (Qb (Z 1 rfl (Ad rfl rfl (by omega) (Zc 1 rfl ⟨⟨rfl, (F9 rfl (by rw [De5, Ao7, Dr2 g2])), rfl, (F9 rfl (by rw [Dr2 g2])), trivial⟩, ?_⟩))))
      exact ⟨hC, hB1⟩
     ·try simp at g2
      refine A7 ⟨⟨rfl, (F9 rfl (by rw [Dr1 g2, Nat.add_zero])), rfl, (F9 rfl (by rw [Dr1 g2, Int.add_zero])), trivial⟩, ?_⟩
      exact ⟨hC, hB1⟩
    rintro e9 w10 ⟨hs9, hC, hB1⟩
    refine I0 _ hs9 ?_
    clear hs9 e9
    generalize hX : X0 + (if mx = -1 then S + 1 else 0) = X at *
    generalize hp1 : (if mx = -1 then (1 : Int) else 0) = p1 at *
    have hp1b : 0 ≤ p1 ∧ p1 ≤ 1 := by rw [← hp1]; split <;> omega
    refine I1 (fun e9 wr => Sub [(1, .pointer (some ⟨b1, 0, none⟩)), (3, .int .i64 (clp X)), (4, .int .i64 (clp S)), (5, .int .i64 (mn + p1 + (if mn < mx then 1 else 0)))] e9 ∧ Chg [] w wr ∧ Blk wr b1 (n6C k s mn mx lz (some ⟨gA, off, none⟩) l.length c fr tl) 140) ?_ ?_
    ·refine Qd (Fa Au4 rfl (Lb o3 rfl ‹_› (by rfl) ?_))
     refine Fa Aj4 rfl (Lb o3 rfl ‹_› (by rfl) ?_)
     refine Zc 1 rfl (A4 rfl (fun g3 => ?_) (fun g3 => ?_))
     ·try simp at g3
      refine Qb (Z 1 rfl (Ad rfl rfl (by omega) (Zc 1 rfl ⟨⟨rfl, rfl, rfl, (F9 rfl (by rw [Dr2 g3])), trivial⟩, ?_⟩)))
      exact ⟨hC, hB1⟩
     ·try simp at g3
      refine A7 ⟨⟨rfl, rfl, rfl, (F9 rfl (by rw [Dr1 (by omega), Int.add_zero])), trivial⟩, ?_⟩
      exact ⟨hC, hB1⟩
    rintro e9 w11 ⟨hs9, hC, hB1⟩
    refine I0 _ hs9 ?_
    clear hs9 e9
    generalize hp2 : (if mn < mx then (1 : Int) else 0) = p2 at *
    have hp2b : 0 ≤ p2 ∧ p2 ≤ 1 := by rw [← hp2]; split <;> omega
    refine Qa (Qd (Fa Aj4 rfl (Lb o3 rfl ‹_› (by rfl) ?_)))
    refine Zc 1 rfl (B0 (D7 (σ := Nat) (fun j => [(1, .pointer (some ⟨b1, 0, none⟩)), (3, .int .i64 (clp (X + (j * (S + 2) + (j - 1))))), (4, .int .i64 (clp S)), (5, .int .i64 (mn + p1 + p2)), (7, .int .i64 (mn + (j : Nat)))]) (fun j wr => Chg [] w wr ∧ Blk wr b1 (n6C k s mn mx lz (some ⟨gA, off, none⟩) l.length c fr tl) 140 ∧ j ≤ (mx - mn).toNat) (fun j wr => (mx - mn).toNat - j) 0 ⟨rfl, (F9 rfl (by rw [Nat.zero_mul]; rfl)), rfl, rfl, (F9 rfl (by simp)), trivial⟩ ?_ ?_))
    ·exact ⟨hC, hB1, Ds0 _⟩
    rintro j w12 ⟨hC, hB1, hj⟩
    have hcj := Ar6 (X + (j * (S + 2) + (j - 1)))
    try have hzw := hC.size
    try have hlB1 := hB1.lt
    refine Qa (Qd (Z 1 rfl (Fa Au4 rfl (Lb o3 rfl ‹_› (by rfl) ?_))))
    refine Zc 1 rfl (A4 rfl (fun g4 => ?_) (fun g4 => ?_))
    ·try simp at g4
     refine A7 (Qa (B0 (Qd (Z 2 rfl (Ca Ce3 rfl (X1 (clp S) 2 hcS.2 (by omega) _) ?_)))))
     rintro _ _ ⟨rfl, rfl⟩
     refine Ca Ce3 rfl (X1 (clp (X + (j * (S + 2) + (j - 1)))) (Y2 (clp S) 2) hcj.2 (L4 _ _).2 _) ?_
     rintro _ _ ⟨rfl, rfl⟩
     refine Zc 1 rfl (Qd (Z 1 rfl (Fa Aj4 rfl (Lb o3 rfl ‹_› (by rfl) ?_))))
     refine Zc 1 rfl (A4 rfl (fun g5 => ?_) (fun g5 => ?_))
     ·try simp at g5
      have hE5 : Y2 (Y2 (clp (X + (j * (S + 2) + (j - 1)))) (Y2 (clp S) 2)) 1 = clp (X + ((j + 1) * (S + 2) + (j + 1 - 1))) := by
       rw [De4, Ao7, De5, Ea8]
       congr 1
       omega
      refine Qb (Z 1 rfl (Ca Ce3 rfl (X1 (Y2 (clp (X + (j * (S + 2) + (j - 1)))) (Y2 (clp S) 2)) 1 (L4 _ _).2 (by omega) _) ?_))
      rintro _ _ ⟨rfl, rfl⟩
      refine Zc 1 rfl (Qb (Z 1 rfl (Ad rfl rfl (by omega) (Zc 1 rfl ⟨j + 1, ⟨rfl, (F9 rfl hE5), rfl, rfl, (F9 rfl (by omega)), trivial⟩, ?_, ?_⟩))))
      exact ⟨hC, hB1, by omega⟩
      show (mx - mn).toNat - (j + 1) < (mx - mn).toNat - j
      omega
     ·try simp at g5
      have hj0 : j = 0 := by omega
      subst hj0
      refine A7 (Qb (Z 1 rfl (Ad rfl rfl (by omega) (Zc 1 rfl ⟨1, ⟨rfl, (F9 rfl (by rw [De4, Ao7]; congr 1; omega)), rfl, rfl, (F9 rfl (by omega)), trivial⟩, ?_, ?_⟩))))
      exact ⟨hC, hB1, by omega⟩
      show (mx - mn).toNat - 1 < (mx - mn).toNat - 0
      omega
    ·try simp at g4
     have hjj : j = (mx - mn).toNat := by omega
     subst hjj
     refine Xb (Qa (Qd (Zc 2 rfl (A4 rfl (fun g6 => ?_) (fun g6 => ?_)))))
     ·try simp at g6
      refine Qd (Zc 1 rfl (A6 (B1 rfl rfl ⟨I9 ?_, hC⟩)))
      have e1 : (if mx = -1 then 1 else 0) = p1.toNat := by rw [← hp1]; split <;> rfl
      have e2 : (if mn < mx then 1 else 0) = p2.toNat := by rw [← hp2]; split <;> rfl
      rw [e1, e2, Dr2 (by omega)]
      rfl
     ·try simp at g6
      refine A7 (Qd (Z 2 rfl (Su rfl rfl (by omega) (Ca Ce3 rfl (X1 (clp (X + ((mx - mn).toNat * (S + 2) + ((mx - mn).toNat - 1)))) (mn + p1 + p2 - 1) hcj.2 (by omega) _) ?_))))
      rintro _ _ ⟨rfl, rfl⟩
      refine Zc 1 rfl (A6 (B1 rfl rfl ⟨I9 ?_, hC⟩))
      rw [Cf5 _ _ (by omega)]
      have e1 : (if mx = -1 then 1 else 0) = p1.toNat := by rw [← hp1]; split <;> rfl
      have e2 : (if mn < mx then 1 else 0) = p2.toNat := by rw [← hp2]; split <;> rfl
      rw [e1, e2, Dr1 (by omega)]
      congr 1
      by_cases h7 : mn < mx
      ·rw [Dr2 h7]; omega
      ·rw [Dr1 h7, show (mx - mn).toNat = 0 by omega, Nat.zero_mul]; omega
  ·try simp at q6
   have hE : szR (.node k s mn mx lz l fr tl) = Az8 l + (l.length - 1) := by rw [szR, Dr1 (by omega), Dr1 q6]
   have hl1 : 1 ≤ l.length := by rcases hk with h | h | h | h | h <;> omega
   rw [hE]
   refine A7 (Qa (Qd (Zc 1 rfl (B0 (D7 (σ := Nat) (fun i => [(1, .pointer (some ⟨b1, 0, none⟩)), (3, .int .i64 (clp (Az8 (l.take i)))), (8, .int .i64 (i : Nat))]) (fun i wr => Chg [] w wr ∧ Rd F wr 11 A l.length (List.flatten css) ∧ N6r F wr l css ∧ Blk wr b1 (n6C k s mn mx lz A l.length c fr tl) 140 ∧ i ≤ l.length) (fun i wr => l.length - i) 0 ⟨rfl, (F9 rfl (by rw [Dz4, Az8]; rfl)), rfl, trivial⟩ ?_ ?_)))))
   ·exact ⟨hC, hr, hI, hB1, Ds0 _⟩
   rintro i w9 ⟨hC, hr, hI, hB1, hi⟩
   try have hzw := hC.size
   try have hlB1 := hB1.lt
   refine Qa (Qd (Z 1 rfl (Fa Au3 rfl (Lb o138 rfl ‹_› (by rfl) ?_))))
   refine Ln Tryz.underlying138 rfl (Zc 1 rfl (A4 rfl (fun h1 => ?_) (fun h1 => ?_)))
   ·try simp at h1
    have hin : i < l.length := by omega
    have hIi := hI.get i hin
    have hlen := hIi.len
    obtain ⟨gA, off, rfl, hFg, hlt, hcell⟩ := hr.at_ (by omega)
    refine A7 (Qa (B0 (Qb (Z 1 rfl (Fa Au3 rfl (Lb o138 rfl ‹_› (by rfl) ?_))))))
    refine Z 1 rfl (C7 rfl (B9 Ao5 rfl rfl (by omega) (by omega)) (C7 rfl (E4 (vs := css.getD i []) Aj7 rfl (E9 _) (fun j v hj => by rw [Dt1]; exact hcell (i * 11 + j) v (hI.row i hin j v hj)) hlen) ?_))
    refine Ca fb89 rfl (hc i hin (css.getD i []) F _ (fun z hz => by have := hF z hz; omega) hIi) ?_
    rintro _ w10 ⟨rfl, hx10⟩
    have hz10 := hx10.size
    have hC := hC.s0 hx10
    have hr := hr.u hx10
    have hI := hI.u hx10
    have hB1 := hB1.u hx10
    refine Ca Ce3 rfl (X1 (clp (Az8 (l.take i))) (clp (szR (l.getD i default))) (Ar6 _).2 (Ar6 _).2 _) ?_
    rintro _ _ ⟨rfl, rfl⟩
    refine Zc 1 rfl (Qb (Z 1 rfl (Ad rfl rfl (by omega) (Zc 1 rfl ⟨i + 1, ⟨rfl, (F9 rfl (by rw [Ao7, Dd0 l i hin])), rfl, trivial⟩, ?_, ?_⟩))))
    exact ⟨hC, hr, hI, hB1, hin⟩
    show l.length - (i + 1) < l.length - i
    omega
   ·try simp at h1
    have hii : i = l.length := by omega
    subst hii
    rw [Dv3]
    refine Xb (Qd (Z 1 rfl (Fa Au3 rfl (Lb o138 rfl ‹_› (by rfl) ?_))))
    refine Ln Tryz.underlying138 rfl (Su rfl rfl (by omega) (Ca Ce3 rfl (X1 (clp (Az8 l)) ((l.length : Int) - 1) (Ar6 _).2 (by omega) _) ?_))
    rintro _ _ ⟨rfl, rfl⟩
    refine Zc 1 rfl (A6 (B1 rfl rfl ⟨I9 ?_, hC⟩))
    rw [Cf5 _ _ (by omega)]
    congr 1
    omega
mutual
theorem Dd7 : ∀ t : R6, G6 t → Ct5 t
 | .node k s mn mx lz l fr tl, h => by
  rw [G6] at h
  exact Dd6 k s mn mx lz l fr tl h.1 (Cn3 l h.2)
theorem Cn3 : ∀ l : List R6, G6s l → ∀ i, i < l.length → Ct5 (l.getD i default)
 | [], _, i, hi => absurd hi (by simp)
 | t :: r, h, 0, _ => by rw [G6s] at h; exact Dd7 t h.1
 | t :: r, h, i + 1, hi => by rw [G6s] at h; rw [Ds7]; exact Cn3 r h.2 i (by simpa using hi)
end
theorem De7 (s : ByteArray) (m : Int) (hs : s.size ≤ 1000) (w : World) : Calls P 57 #[.string s, .int .i64 m] w (Ret fun u w' => Chg [] w w' ∧ ∃ cs, u = .tuple #[.agg cs.toArray, .int .i64 (I6 (C2 s) m).2.1, .int .i64 (I6 (C2 s) m).2.2] ∧ N8 (FR w.heap.size w'.heap.size []) w' (I6 (C2 s) m).1 cs) := by
 have hC := A8 [] w
 have hsl := E7 s
 have hlt := W5 s
 have hP : I6 (C2 s) m = if m < 0 ∨ 3 < m then (default, 0, 1) else if (O4 (C2 s)).2.2 ≠ 0 then (default, (O4 (C2 s)).2) else if 4096 < clp (szR (O4 (C2 s)).1 + Ai5 m) then (default, 0, 3) else (Al1 (Ar3 (O4 (C2 s)).1) m, 0, 0) := rfl
 have hG := Av7 (C2 s) hlt (by omega)
 generalize I6 (C2 s) m = r at *
 refine D3 Tryz.func57 rfl rfl (Qd (B4 rfl (B6 Ak8 rfl) ?_))
 intro b1 w1 hb1 hs1 hx1 hB1
 have hC := hC.s0 hx1
 refine Zc 2 rfl (Qa (Qd (Z 3 rfl (B7 (d := 11) rfl (fun h1 => ?_) (fun h1 => ?_)))))
 ·try simp at h1
  rw [Dr2 (.inl (by omega))] at hP
  subst hP
  refine Qk rfl (Qk rfl (Zc 1 rfl (E1 rfl (Qd (C7 rfl (A9 Ak8 Co8 rfl (by rfl)) ?_)))))
  refine Pe Ah1 rfl ‹_› rfl rfl ?_
  intro w2 hs2 hx2 hB1
  have hC := hC.step hx2 (by simp; omega)
  refine Zc 2 rfl (A6 (O1 rfl rfl (A5 K4 ‹_› rfl rfl) rfl rfl ?_))
  exact ⟨hC, _, rfl, Ai4 _ _⟩
 ·try simp at h1
  refine Qu rfl (Z 1 rfl (Qu rfl (Zc 2 rfl (A4 rfl (fun h2 => ?_) (fun h2 => ?_)))))
  ·try simp at h2
   rw [Dr2 (.inr (by omega))] at hP
   subst hP
   refine Qd (C7 rfl (A9 Ak8 Co8 rfl (by rfl)) ?_)
   refine Pe Ah1 rfl ‹_› rfl rfl ?_
   intro w3 hs3 hx3 hB1
   have hC := hC.step hx3 (by simp; omega)
   refine Zc 2 rfl (A6 (O1 rfl rfl (A5 K4 ‹_› rfl rfl) rfl rfl ?_))
   exact ⟨hC, _, rfl, Ai4 _ _⟩
  ·try simp at h2
   rw [Dr1 (by omega)] at hP
   refine A7 (Qd (Z 1 rfl (Ca fb88 rfl (De8 s hs _) ?_)))
   rintro _ w4 ⟨hx4, cs, rfl, hn⟩
   have hz4 := hx4.size
   generalize O4 (C2 s) = t at *
   obtain ⟨t, p, e⟩ := t
   simp only [] at hP hG hn
   have hone := hn.one1
   obtain ⟨a0, a1, a2, a3, a4, a5, a6, a7, a8, rfl⟩ := hn.cells
   refine Z 3 rfl (B4 rfl (B6 Ag3 rfl) ?_)
   intro b5 w5 hb5 hs5 hx5 hB5
   refine B4 rfl (B6 Ax8 rfl) ?_
   intro b6 w6 hb6 hs6 hx6 hB6
   have hn := hn.u (hx5.s0 hx6)
   have hB5 := hB5.u hx6
   refine Pb (cs' := [a0, a1, a2, a3, a4, a5, a6, a7, a8, .int .i64 t.frm, .int .i64 t.till]) Ay0 rfl rfl hB5 rfl rfl hone rfl rfl ?_
   intro w7 hs7 hx7 hB5
   have hn := hn.q hx7 (by intro x hx hf; have hx := Dr4.1 hx; have h1 := hf.1; have h2 := hf.2.1; omega)
   have hB6 := hB6.q hx7 (by simp; omega)
   refine Pe Az9 rfl ‹_› rfl rfl ?_
   intro w8 hs8 hx8 hB6
   have hC := hC.step ((((hx4.j hx5).j hx6).j hx7).j hx8) (by simp <;> omega)
   have hB1 := hB1.q ((((hx4.j hx5).j hx6).j hx7).j hx8) (by simp <;> omega)
   have hn := hn.q hx8 (by intro x hx hf; have hx := Dr4.1 hx; have h1 := hf.1; have h2 := hf.2.1; omega)
   have hB5 := hB5.q hx8 (by simp; omega)
   refine Qc (Qa (Qd (Fa Cj2 rfl (Lb o3 rfl ‹_› (by rfl) ?_))))
   refine Zc 1 rfl (A4 rfl (fun h3 => ?_) (fun h3 => ?_))
   ·try simp at h3
    rw [Dr2 h3] at hP
    subst hP
    refine Qa (C6 (S := [b1]) 7 [(0, 0), (0, 1), (0, 2), (0, 3), (0, 4), (1, 5), (0, 6), (2, 7)] mo (by kernel_rfl) ?_)
    intro w9 hx9 hh9
    have hB1 := hB1.u hx9
    have hB6 := hB6.u hx9
    have hCS9 := A8 ([b1]) w9
    refine D5 rfl (A9 Ak8 Co8 rfl (by rfl)) ?_
    refine Fa fl142_0 rfl (D5 rfl (B2 o3 rfl ‹_› (by simp; omega) (by rfl)) ?_)
    refine Fa Cj2 rfl (D5 rfl (B2 o3 rfl ‹_› (by simp; omega) (by rfl)) ?_)
    refine H1 (F8 Ah1 rfl rfl ‹_› rfl rfl rfl rfl rfl) ?_
    intro w10 hs10 hx10 hB1
    have hC := hC.step (hx9.j hx10) (by simp <;> omega)
    have hCS9 := hCS9.step hx10 (by simp; done)
    refine ⟨hCS9, ?_⟩
    refine Zc 2 rfl (A6 (O1 rfl rfl (A5 K4 ‹_› rfl rfl) rfl rfl ?_))
    exact ⟨hC, _, rfl, Ai4 _ _⟩
   ·try simp at h3
    have h3' : e = 0 := by simpa using h3
    rw [Dr1 (by simpa using h3')] at hP
    have hg := hG h3'
    have hmore : ∀ o : Nat, o = m.toNat → ([.int .i64 0, .int .i64 3, .int .i64 3, .int .i64 6] : List Value)[o]? = some (.int .i64 (Ai5 m : Nat)) := by
     rintro o rfl
     rcases (show m = 0 ∨ m = 1 ∨ m = 2 ∨ m = 3 by omega) with rfl | rfl | rfl | rfl <;> rfl
    have hsz := Dd7 t hg
    have hcm : Ad2 .gtr (Y2 (clp (szR t)) ((Ai5 m : Nat) : Int)) 4096 = decide (4096 < clp (szR t + Ai5 m)) := by
     rw [Cf5 _ _ (by omega), Ds6, cmpB_gtr, Ds5, Ds1]
    refine A7 (Qa (I1 (fun e9 wr => Sub [(1, .int .i64 m), (4, .pointer (some ⟨b1, 0, none⟩)), (7, .pointer (some ⟨b5, 0, none⟩)), (36, .bool (decide (4096 < clp (szR t + Ai5 m))))] e9 ∧ Chg [] w wr ∧ Blk wr b1 [.int .i64 0, .int .u64 0, .int .u64 0, .int .u64 0, .int .u64 0, .bool false, .slice none 0 0] 73 ∧ N6 (FR w1.heap.size w4.heap.size []) wr t [a0, a1, a2, a3, a4, a5, a6, a7, a8, .int .i64 t.frm, .int .i64 t.till] ∧ Blk wr b5 [a0, a1, a2, a3, a4, a5, a6, a7, a8, .int .i64 t.frm, .int .i64 t.till] 140) ?_ ?_))
    ·refine Bg8 (S := []) 6 (.two [(0, 0), (0, 3)] 1 (.seg [(1, 2), (0, 4), (1, 5), (2, 6), (2, 7)]) 2 (.two [(0, 4)] 1 (.seg [(1, 5), (2, 6), (2, 7)]) 5 (.seg [(1, 1), (2, 6), (2, 7)]))) mo (by kernel_rfl) ?_
     simp only [ET]
     intro w11 hx11 hh11
     have hC := hC.s0 hx11
     have hB1 := hB1.u hx11
     have hn := hn.u hx11
     have hB5 := hB5.u hx11
     have hB6 := hB6.u hx11
     have hCS11 := A8 ([]) w11
     refine D5 rfl (B8 Aj7 rfl ‹_› (by simp; done) rfl rfl) ?_
     refine Zc 1 rfl ⟨?_, ?_⟩
     ·refine C4 rfl (C0 fb89 rfl) (hsz _ _ _ (fun z hz => by have := hz.2.1; omega) hn) ?_
      rintro _ w12 ⟨rfl, hx12⟩
      have hCS11 := hCS11.s0 hx12
      refine ⟨hCS11, ?_⟩
      refine Qc (D9 rfl (B5 T3 Tryz.underlying24 zr3 rfl rfl rfl (by rfl)) ?_)
      intro b13 w13 hb13 hs13 hx13 hB13
      have hz13 := hx13.size
      have hC := hC.s0 (hx12.s0 hx13)
      have hB1 := hB1.u (hx12.s0 hx13)
      have hn := hn.u (hx12.s0 hx13)
      have hB5 := hB5.u (hx12.s0 hx13)
      have hB6 := hB6.u (hx12.s0 hx13)
      have hCS11 := hCS11.s0 hx13
      refine ⟨hCS11, ?_⟩
      refine D5 rfl (B3 T3 rfl rfl (by omega) (by omega)) (Cm4 rfl (Y3 o3 rfl (E9 _) (by rw [Blk.cell ‹_›]; exact hmore _ (by omega))) ‹_› ?_)
      refine Ca Ce3 rfl (X1 (clp (szR t)) (Ai5 m : Nat) (Ar6 _).2 (by have : Ai5 m ≤ 6 := (by unfold Ai5; split; omega; split <;> omega); omega) _) ?_
      rintro _ _ ⟨rfl, rfl⟩
      refine Zc 1 rfl ⟨⟨rfl, rfl, rfl, (G9 rfl hcm), trivial⟩, ?_⟩
      exact ⟨hC, hB1, hn, hB5⟩
     ·refine D9 rfl (B5 T3 Tryz.underlying24 zr3 rfl rfl rfl (by rfl)) ?_
      intro b15 w15 hb15 hs15 hx15 hB15
      have hC := hC.s0 hx15
      have hB1 := hB1.u hx15
      have hn := hn.u hx15
      have hB5 := hB5.u hx15
      have hB6 := hB6.u hx15
      have hCS11 := hCS11.s0 hx15
      refine ⟨hCS11, ?_⟩
      refine Qc (D5 rfl (B3 T3 rfl rfl (by omega) (by omega)) (Qc ⟨?_, ?_⟩))
      ·refine C4 rfl (C0 fb89 rfl) (hsz _ _ _ (fun z hz => by have := hz.2.1; omega) hn) ?_
       rintro _ w16 ⟨rfl, hx16⟩
       have hz16 := hx16.size
       have hC := hC.s0 hx16
       have hB1 := hB1.u hx16
       have hn := hn.u hx16
       have hB5 := hB5.u hx16
       have hB6 := hB6.u hx16
       have hCS11 := hCS11.s0 hx16
       have hB15 := hB15.u hx16
       refine ⟨hCS11, ?_⟩
       refine Qc (Cm4 rfl (Y3 o3 rfl (E9 _) (by rw [Blk.cell ‹_›]; exact hmore _ (by omega))) ‹_› ?_)
       refine Ca Ce3 rfl (X1 (clp (szR t)) (Ai5 m : Nat) (Ar6 _).2 (by have : Ai5 m ≤ 6 := (by unfold Ai5; split; omega; split <;> omega); omega) _) ?_
       rintro _ _ ⟨rfl, rfl⟩
       refine Zc 1 rfl ⟨⟨rfl, rfl, rfl, (G9 rfl hcm), trivial⟩, ?_⟩
       exact ⟨hC, hB1, hn, hB5⟩
      ·refine Cm4 rfl (Y3 o3 rfl (E9 _) (by rw [Blk.cell ‹_›]; exact hmore _ (by omega))) ‹_› ?_
       refine Qc (C4 rfl (C0 fb89 rfl) (hsz _ _ _ (fun z hz => by have := hz.2.1; omega) hn) ?_)
       rintro _ w18 ⟨rfl, hx18⟩
       have hz18 := hx18.size
       have hC := hC.s0 hx18
       have hB1 := hB1.u hx18
       have hn := hn.u hx18
       have hB5 := hB5.u hx18
       have hB6 := hB6.u hx18
       have hCS11 := hCS11.s0 hx18
       have hB15 := hB15.u hx18
       refine ⟨hCS11, ?_⟩
       refine Ca Ce3 rfl (X1 (clp (szR t)) (Ai5 m : Nat) (Ar6 _).2 (by have : Ai5 m ≤ 6 := (by unfold Ai5; split; omega; split <;> omega); omega) _) ?_
       rintro _ _ ⟨rfl, rfl⟩
       refine Zc 1 rfl ⟨⟨rfl, rfl, rfl, (G9 rfl hcm), trivial⟩, ?_⟩
       exact ⟨hC, hB1, hn, hB5⟩
    rintro e9 w20 ⟨hs9, hC, hB1, hn, hB5⟩
    refine I0 _ hs9 ?_
    clear hs9 e9
    try have hlB5 := hB5.lt
    refine A4 rfl (fun h5 => ?_) (fun h5 => ?_)
    ·try simp at h5
     have h5' : 4096 < clp (szR t + Ai5 m) := by simpa using h5
     rw [Dr2 h5'] at hP
     subst hP
     refine Qd (C7 rfl (A9 Ak8 Co8 rfl (by rfl)) ?_)
     refine Pe Ah1 rfl ‹_› rfl rfl ?_
     intro w20 hs20 hx20 hB1
     have hC := hC.step hx20 (by simp; omega)
     refine Zc 2 rfl (A6 (O1 rfl rfl (A5 K4 ‹_› rfl rfl) rfl rfl ?_))
     exact ⟨hC, _, rfl, Ai4 _ _⟩
    ·try simp at h5
     have h5' : ¬ 4096 < clp (szR t + Ai5 m) := by simpa using h5
     rw [Dr1 h5'] at hP
     subst hP
     refine A7 (Qd (La Aj7 rfl ‹_› rfl rfl ?_))
     refine Ca fb91 rfl (Do0 t hg _ _ _ (fun z hz => by have := hz.2.1; omega) hn) ?_
     rintro _ w21 ⟨hx21, cs1, rfl, hn1⟩
     have hz21 := hx21.size
     refine Z 1 rfl (Ca fb90 rfl (rmode_c (Ar3 t) m cs1 _ _ (fun z hz => hz.2.1) hn1) ?_)
     rintro _ w22 ⟨hx22, cs2, rfl, hn2⟩
     have hB1 := hB1.u (hx21.s0 hx22)
     have hn2 := hn2.mono (F' := FR (b1 + 1) w22.heap.size []) (fun z h hzl => by rcases h with h | h; exact ⟨by have := h.1; omega, hzl, by simp⟩; exact ⟨by omega, hzl, by simp⟩)
     have hone2 := hn2.one1
     obtain ⟨f0, f1, f2, f3, f4, f5, f6, rfl⟩ := hn2.cells
     refine Pb (cs' := [f0, f1, f2, f3, f4, f5, f6]) Ah1 rfl rfl hB1 rfl rfl hone2 rfl rfl ?_
     intro w23 hs23 hx23 hB1
     have hC := hC.step ((hx21.j hx22).j hx23) (by simp <;> omega)
     have hn2 := hn2.q hx23 (by intro x hx hf; have hx := Dr4.1 hx; have h1 := hf.1; have h2 := hf.2.1; omega)
     refine Zc 2 rfl (A6 (O1 rfl rfl (A5 K4 ‹_› rfl rfl) rfl rfl ?_))
     exact ⟨hC, _, rfl, hn2.mono fun z h hzl => ⟨by have := h.1; omega, hzl, by simp⟩⟩
mutual
def D8 : R8 → Nat
 | .node k _ _ l => if k = 1 then 1 else H3 l
def H3 : List R8 → Nat
 | [] => 0
 | t :: r => D8 t + H3 r
end
def Ce9 (k : Int) (vs : List Int) : Int := if k = 0 ∨ k = 4 then 1 else if k = 2 then Ag0 (vs.getD 0 0) (vs.getD 1 0) else if k = 3 then Y2 (vs.getD 0 0) (vs.getD 1 0) else 0
mutual
def Ag4 : R8 → Int
 | .node k _ _ l => Ce9 k (Al5 l)
def Al5 : List R8 → List Int
 | [] => []
 | t :: r => Ag4 t :: Al5 r
end
mutual
def Am5 : R8 → List Nat
 | .node k s _ l => (if k = 1 then [s] else []) ++ O9 l
def O9 : List R8 → List Nat
 | [] => []
 | t :: r => Am5 t ++ O9 r
end
mutual
def Bc9 : R8 → Bool
 | .node k _ _ l => (decide (k = 4) && decide (300 < (Al5 l).getD 0 0)) || W7 l
def W7 : List R8 → Bool
 | [] => false
 | t :: r => Bc9 t || W7 r
end
theorem n8s_pos (t : R8) : 1 ≤ n8s t := by cases t with | node k s lz l => rw [n8s]; omega
theorem Bq7 : ∀ l : List R8, l.length ≤ n8l l
 | [] => Ds0 _
 | t :: r => by rw [n8l, Du3]; have := n8s_pos t; have := Bq7 r; omega
theorem Cp6 (l : List R8) (i : Nat) (h : i < l.length) : n8l (l.take (i + 1)) = n8l (l.take i) + n8s (l.getD i default) := by
 induction l generalizing i with
 | nil => simp at h
 | cons t r ih =>
  cases i with
  | zero => simp [n8l]
  | succ i =>
   have := ih i (by simpa using h)
   simp only [Dw8, n8l, Ds7, this]
   omega
theorem Ae6 (l : List R8) (i : Nat) : n8l (l.take i) ≤ n8l l := by
 have := Bk9 (l.take i) (l.drop i)
 rw [List.take_append_drop] at this
 omega
theorem n8l_get (l : List R8) (i : Nat) (h : i < l.length) : n8s (l.getD i default) ≤ n8l l := by
 have := Cp6 l i h
 have := Ae6 l (i + 1)
 omega
theorem Bq0 (l : List R8) (i : Nat) (h : i < l.length) : H3 (l.take (i + 1)) = H3 (l.take i) + D8 (l.getD i default) := by
 induction l generalizing i with
 | nil => simp at h
 | cons t r ih =>
  cases i with
  | zero => simp [H3]
  | succ i =>
   have := ih i (by simpa using h)
   simp only [Dw8, H3, Ds7, this]
   omega
mutual
theorem Ac5 : ∀ t : R8, D8 t ≤ n8s t
 | .node k s lz l => by
  have := Am7 l
  rw [D8, n8s]
  split <;> omega
theorem Am7 : ∀ l : List R8, H3 l ≤ n8l l
 | [] => by rw [H3]; omega
 | t :: r => by
  have := Ac5 t
  have := Am7 r
  rw [H3, n8l]
  omega
end
theorem As6 : ∀ (l : List R8) (i : Nat), i < l.length → (Al5 l).getD i 0 = Ag4 (l.getD i default)
 | [], i, h => by simp at h
 | t :: r, 0, _ => by rw [Al5]; rfl
 | t :: r, i + 1, h => by rw [Al5, Ds7, Ds7]; exact As6 r i (by simpa using h)
theorem R9 (t : R8) : 0 ≤ Ag4 t ∧ Ag4 t ≤ 9223372036854775807 := by
 cases t with
 | node k s lz l =>
  rw [Ag4]
  unfold Ce9
  split
  ·omega
  split
  ·exact Y1 _ _
  split
  ·exact L4 _ _
  ·omega
theorem Cf4 (l : List R8) (i : Nat) (h : i < l.length) : O9 (l.take (i + 1)) = O9 (l.take i) ++ Am5 (l.getD i default) := by
 induction l generalizing i with
 | nil => simp at h
 | cons t r ih =>
  cases i with
  | zero => simp [O9]
  | succ i =>
   have := ih i (by simpa using h)
   simp only [Dw8, O9, Ds7, this, List.append_assoc]
mutual
theorem Dd9 : ∀ t : R8, G8 t → (Am5 t).length = D8 t
 | .node k s lz l, h => by
  rw [G8] at h
  have := Bj5 l h.2
  rw [Am5, D8, Dr7, this]
  split
  ·rename_i hk
   have : l.length = 0 := by rcases h.1 with h | h | h | h <;> omega
   rw [Dy0.1 this, H3]
   rfl
  ·simp
theorem Bj5 : ∀ l : List R8, G8s l → (O9 l).length = H3 l
 | [], _ => by rw [O9, H3]; rfl
 | t :: r, h => by
  rw [G8s] at h
  rw [O9, H3, Dr7, Dd9 t h.1, Bj5 r h.2]
end
theorem Aw6 (l : List R8) (i : Nat) (h : i < l.length) : W7 (l.take (i + 1)) = (W7 (l.take i) || Bc9 (l.getD i default)) := by
 induction l generalizing i with
 | nil => simp at h
 | cons t r ih =>
  cases i with
  | zero => simp [W7]
  | succ i =>
   have := ih i (by simpa using h)
   simp only [Dw8, W7, Ds7, this, Bool.or_assoc]
theorem Bc8 {l : List R8} {i : Nat} (h : i < l.length) (hl : Bc9 (l.getD i default) = true) : W7 l = true := by
 induction l generalizing i with
 | nil => simp at h
 | cons t r ih =>
  rw [W7]
  cases i with
  | zero => rw [show Bc9 t = true from hl]; rfl
  | succ i => rw [ih (i := i) (by simpa using h) hl]; simp
theorem N8.open {F : Nat → Prop} {w : World} {k : Int} {s : Nat} {lz : Bool} {l : List R8} {cs : List Value} (h : N8 F w (.node k s lz l) cs) : ∃ A c css, cs = n8C k s lz A l.length c ∧ Rd F w 7 A l.length (List.flatten css) ∧ N8r F w l css := by rw [N8] at h; exact h
def Bv4 (t : R8) : Prop := ∀ (cs : List Value) (F : Nat → Prop) (w : World), (∀ x, F x → x < w.heap.size) → N8 F w t cs → Calls P 59 #[.agg cs.toArray] w (Ret fun u w' => u = .int .i64 (n8s t : Nat) ∧ Chg [] w w')
theorem Cz6 (k : Int) (s : Nat) (lz : Bool) (l : List R8) (hb : n8l l ≤ 100000) (hc : ∀ i, i < l.length → Bv4 (l.getD i default)) : Bv4 (.node k s lz l) := by
 intro cs F w hF hN
 have hC := A8 [] w
 have hll := Bq7 l
 obtain ⟨A, c, css, rfl, hr, hI⟩ := hN.open
 rw [n8s]
 refine D3 Tryz.func59 rfl rfl (Qd (B4 rfl (E0 rfl rfl) ?_))
 intro b1 w1 hb1 hs1 hx1 hB1
 have hC := hC.s0 hx1
 have hr := hr.u hx1
 have hI := hI.u hx1
 refine Zc 1 rfl (Qd (Zc 1 rfl (Qa (Qd (Zc 1 rfl (B0 (D7 (σ := Nat) (fun i => [(1, .pointer (some ⟨b1, 0, none⟩)), (3, .int .i64 ((1 + n8l (l.take i) : Nat) : Int)), (4, .int .i64 (i : Nat))]) (fun i wr => Chg [] w wr ∧ Rd F wr 7 A l.length (List.flatten css) ∧ N8r F wr l css ∧ Blk wr b1 (n8C k s lz A l.length c) 73 ∧ i ≤ l.length) (fun i wr => l.length - i) 0 ⟨rfl, (F9 rfl (by rw [Dz4, n8l]; rfl)), rfl, trivial⟩ ?_ ?_)))))))
 ·exact ⟨hC, hr, hI, hB1, Ds0 _⟩
 rintro i w9 ⟨hC, hr, hI, hB1, hi⟩
 try have hlB1 := hB1.lt
 refine Qa (Qd (Z 1 rfl (Fa M7 rfl (Lb o71 rfl ‹_› (by rfl) ?_))))
 refine Ln Tryz.underlying71 rfl (Zc 1 rfl (A4 rfl (fun h1 => ?_) (fun h1 => ?_)))
 ·try simp at h1
  have hin : i < l.length := by omega
  have hIi := hI.get i hin
  have hlen := hIi.len
  have htk := Cp6 l i hin
  have hle := Ae6 l (i + 1)
  obtain ⟨gA, off, rfl, hFg, hlt, hcell⟩ := hr.at_ (by omega)
  refine A7 (Qa (B0 (Qb (Z 1 rfl (Fa M7 rfl (Lb o71 rfl ‹_› (by rfl) ?_))))))
  refine Z 1 rfl (C7 rfl (B9 Ah3 rfl rfl (by omega) (by omega)) (C7 rfl (E4 (vs := css.getD i []) K4 rfl (E9 _) (fun j v hj => by rw [Dt1]; exact hcell (i * 7 + j) v (hI.row i hin j v hj)) hlen) ?_))
  refine Ca fb59 rfl (hc i hin (css.getD i []) F _ (fun z hz => by have := hF z hz; omega) hIi) ?_
  rintro _ w2 ⟨rfl, hx2⟩
  have hC := hC.s0 hx2
  have hr := hr.u hx2
  have hI := hI.u hx2
  have hB1 := hB1.u hx2
  refine Ad rfl rfl (by omega) (Zc 1 rfl (Qb (Z 1 rfl (Ad rfl rfl (by omega) (Zc 1 rfl ⟨i + 1, ⟨rfl, (F9 rfl (by rw [htk]; omega)), rfl, trivial⟩, ?_, ?_⟩)))))
  exact ⟨hC, hr, hI, hB1, hin⟩
  show l.length - (i + 1) < l.length - i
  omega
 ·try simp at h1
  have hii : i = l.length := by omega
  subst hii
  rw [Dv3]
  exact Xb (Qd (Zc 2 rfl (A6 (B1 rfl rfl ⟨rfl, hC⟩))))
def Az6 (t : R8) : Prop := ∀ (cs : List Value) (F : Nat → Prop) (w : World), (∀ x, F x → x < w.heap.size) → N8 F w t cs → Calls P 58 #[.agg cs.toArray] w (Ret fun u w' => u = .int .i64 (D8 t : Nat) ∧ Chg [] w w')
theorem Cg2 (k : Int) (s : Nat) (lz : Bool) (l : List R8) (hb : n8l l ≤ 100000) (hc : ∀ i, i < l.length → Az6 (l.getD i default)) : Az6 (.node k s lz l) := by
 intro cs F w hF hN
 have hC := A8 [] w
 have hll := Bq7 l
 obtain ⟨A, c, css, rfl, hr, hI⟩ := hN.open
 rw [D8]
 refine D3 Tryz.func58 rfl rfl (Qd (B4 rfl (E0 rfl rfl) ?_))
 intro b1 w1 hb1 hs1 hx1 hB1
 have hC := hC.s0 hx1
 have hr := hr.u hx1
 have hI := hI.u hx1
 refine Zc 1 rfl (Qa (Qd (Fa Aq7 rfl (Lb o3 rfl ‹_› (by rfl) ?_))))
 refine Zc 1 rfl (A4 rfl (fun q1 => ?_) (fun q1 => ?_))
 ·try simp at q1
  rw [Dr2 q1]
  exact Qd (Zc 1 rfl (A6 (B1 rfl rfl ⟨rfl, hC⟩)))
 ·try simp at q1
  rw [Dr1 q1]
  refine A7 (Qd (Zc 1 rfl (Qa (Qd (Zc 1 rfl (B0 (D7 (σ := Nat) (fun i => [(1, .pointer (some ⟨b1, 0, none⟩)), (3, .int .i64 ((H3 (l.take i) : Nat) : Int)), (4, .int .i64 (i : Nat))]) (fun i wr => Chg [] w wr ∧ Rd F wr 7 A l.length (List.flatten css) ∧ N8r F wr l css ∧ Blk wr b1 (n8C k s lz A l.length c) 73 ∧ i ≤ l.length) (fun i wr => l.length - i) 0 ⟨rfl, (F9 rfl (by rw [Dz4, H3]; rfl)), rfl, trivial⟩ ?_ ?_)))))))
  ·exact ⟨hC, hr, hI, hB1, Ds0 _⟩
  rintro i w9 ⟨hC, hr, hI, hB1, hi⟩
  try have hlB1 := hB1.lt
  refine Qa (Qd (Z 1 rfl (Fa M7 rfl (Lb o71 rfl ‹_› (by rfl) ?_))))
  refine Ln Tryz.underlying71 rfl (Zc 1 rfl (A4 rfl (fun h1 => ?_) (fun h1 => ?_)))
  ·try simp at h1
   have hin : i < l.length := by omega
   have hIi := hI.get i hin
   have hlen := hIi.len
   have htk := Bq0 l i hin
   have hle := Ae6 l (i + 1)
   have hpl := Am7 (l.take (i + 1))
   obtain ⟨gA, off, rfl, hFg, hlt, hcell⟩ := hr.at_ (by omega)
   refine A7 (Qa (B0 (Qb (Z 1 rfl (Fa M7 rfl (Lb o71 rfl ‹_› (by rfl) ?_))))))
   refine Z 1 rfl (C7 rfl (B9 Ah3 rfl rfl (by omega) (by omega)) (C7 rfl (E4 (vs := css.getD i []) K4 rfl (E9 _) (fun j v hj => by rw [Dt1]; exact hcell (i * 7 + j) v (hI.row i hin j v hj)) hlen) ?_))
   refine Ca fb58 rfl (hc i hin (css.getD i []) F _ (fun z hz => by have := hF z hz; omega) hIi) ?_
   rintro _ w2 ⟨rfl, hx2⟩
   have hC := hC.s0 hx2
   have hr := hr.u hx2
   have hI := hI.u hx2
   have hB1 := hB1.u hx2
   refine Ad rfl rfl (by omega) (Zc 1 rfl (Qb (Z 1 rfl (Ad rfl rfl (by omega) (Zc 1 rfl ⟨i + 1, ⟨rfl, (F9 rfl (by rw [htk]; omega)), rfl, trivial⟩, ?_, ?_⟩)))))
   exact ⟨hC, hr, hI, hB1, hin⟩
   show l.length - (i + 1) < l.length - i
   omega
  ·try simp at h1
   have hii : i = l.length := by omega
   subst hii
   rw [Dv3]
   exact Xb (Qd (Zc 2 rfl (A6 (B1 rfl rfl ⟨rfl, hC⟩))))
def Ct3 (t : R8) : Prop := ∀ (cs : List Value) (F : Nat → Prop) (w : World), (∀ x, F x → x < w.heap.size) → N8 F w t cs → Calls P 69 #[.agg cs.toArray] w (Ret fun u w' => u = .int .i64 (Ag4 t) ∧ Chg [] w w')
theorem Dc3 (k : Int) (s : Nat) (lz : Bool) (l : List R8) (hk : K8 k l.length) (hc : ∀ i, i < l.length → Ct3 (l.getD i default)) : Ct3 (.node k s lz l) := by
 intro cs F w hF hN
 have hC := A8 [] w
 obtain ⟨A, c, css, rfl, hr, hI⟩ := hN.open
 have hV : ∀ i, i < l.length → (Al5 l).getD i 0 = Ag4 (l.getD i default) := fun i => As6 l i
 rw [Ag4]
 generalize Al5 l = vs at *
 refine D3 Tryz.func69 rfl rfl (Qd (B4 rfl (E0 rfl rfl) ?_))
 intro b1 w1 hb1 hs1 hx1 hB1
 have hC := hC.s0 hx1
 have hr := hr.u hx1
 have hI := hI.u hx1
 refine Zc 1 rfl (Qa (Qd (Fa Aq7 rfl (Lb o3 rfl ‹_› (by rfl) ?_))))
 refine Qc (B0 (Qa (Qd (Zc 2 rfl (A4 rfl (fun q0 => ?_) (fun q0 => ?_))))))
 ·refine A7 (E1 (G9 rfl q0) ?_)
  rw [cmpB_eql] at q0
  exact Qd (Zc 1 rfl (A6 (B1 rfl rfl ⟨I9 (by unfold Ce9; rw [Dr2 (.inl q0)]), hC⟩)))
 ·rw [cmpB_eqlF] at q0
  refine Qb (Zc 2 rfl (A4 rfl (fun q4 => ?_) (fun q4 => ?_)))
  ·rw [cmpB_eql] at q4
   exact Qd (Zc 1 rfl (A6 (B1 rfl rfl ⟨I9 (by unfold Ce9; rw [Dr2 (.inr q4)]), hC⟩)))
  ·rw [cmpB_eqlF] at q4
   refine Qd (Zc 2 rfl (A4 rfl (fun q2 => ?_) (fun q2 => ?_)))
   ·try simp at q2
    have hl2 : l.length = 2 := by rcases hk with h | h | h | h <;> omega
    have hI0 := hI.get 0 (by omega)
    have hlen0 := hI0.len
    have hI1 := hI.get 1 (by omega)
    have hlen1 := hI1.len
    refine Qa (C6 (S := []) 9 [(0, 0), (0, 1), (0, 2), (0, 3), (0, 5), (0, 6), (0, 7), (0, 8), (1, 4), (2, 9), (2, 10), (2, 11)] mo (by kernel_rfl) ?_)
    intro w2 hx2 hh2
    have hC := hC.s0 hx2
    have hr := hr.u hx2
    have hI := hI.u hx2
    have hB1 := hB1.u hx2
    have hI0 := hI0.u hx2
    have hI1 := hI1.u hx2
    have hCS2 := A8 ([]) w2
    obtain ⟨gA, off, rfl, hFg, hlt, hcell⟩ := hr.at_ (by omega)
    refine Fa M7 rfl (D5 rfl (B2 o71 rfl ‹_› (by simp; done) (by rfl)) ?_)
    refine D5 rfl (B9 Ah3 rfl rfl (by omega) (by omega)) (D5 rfl (J0 (vs := css.getD 0 []) K4 rfl ⟨hlt, fun j v hj => by rw [Dt1]; exact hcell (0 * 7 + j) v (hI.row 0 (by omega) j v hj)⟩ (by simp; done) hlen0) ?_)
    refine Fa M7 rfl (D5 rfl (B2 o71 rfl ‹_› (by simp; done) (by rfl)) ?_)
    refine D5 rfl (B9 Ah3 rfl rfl (by omega) (by omega)) (D5 rfl (J0 (vs := css.getD 1 []) K4 rfl ⟨hlt, fun j v hj => by rw [Dt1]; exact hcell (1 * 7 + j) v (hI.row 1 (by omega) j v hj)⟩ (by simp; done) hlen1) ?_)
    refine C4 rfl (C0 fb69 rfl) (hc 0 (by omega) (css.getD 0 []) F _ (fun z hz => by have := hF z hz; omega) hI0) ?_
    rintro _ w3 ⟨rfl, hx3⟩
    have hz3 := hx3.size
    have hC := hC.s0 hx3
    have hr := hr.u hx3
    have hI := hI.u hx3
    have hB1 := hB1.u hx3
    have hI0 := hI0.u hx3
    have hI1 := hI1.u hx3
    have hCS2 := hCS2.s0 hx3
    refine ⟨hCS2, ?_⟩
    refine Ca fb69 rfl (hc 1 (by omega) (css.getD 1 []) F _ (fun z hz => by have := hF z hz; omega) hI1) ?_
    rintro _ w4 ⟨rfl, hx4⟩
    have hz4 := hx4.size
    have hC := hC.s0 hx4
    have hr := hr.u hx4
    have hI := hI.u hx4
    have hB1 := hB1.u hx4
    have hI0 := hI0.u hx4
    have hI1 := hI1.u hx4
    refine Ca fb50 rfl (rmul_c (Ag4 (l.getD 0 default)) (Ag4 (l.getD 1 default)) (R9 _).2 (R9 _).2 _) ?_
    rintro _ _ ⟨rfl, rfl⟩
    exact Zc 1 rfl (A6 (B1 rfl rfl ⟨I9 (by unfold Ce9; rw [Dr1 (Dz6.2 ⟨q0, q4⟩), Dr2 q2, hV 0 (by omega), hV 1 (by omega)]), hC⟩))
   ·try simp at q2
    refine Qd (Zc 2 rfl (A4 rfl (fun q3 => ?_) (fun q3 => ?_)))
    ·try simp at q3
     have hl2 : l.length = 2 := by rcases hk with h | h | h | h <;> omega
     have hI0 := hI.get 0 (by omega)
     have hlen0 := hI0.len
     have hI1 := hI.get 1 (by omega)
     have hlen1 := hI1.len
     refine Qa (C6 (S := []) 9 [(0, 0), (0, 1), (0, 2), (0, 3), (0, 5), (0, 6), (0, 7), (0, 8), (1, 4), (2, 9), (2, 10), (2, 11)] mo (by kernel_rfl) ?_)
     intro w6 hx6 hh6
     have hC := hC.s0 hx6
     have hr := hr.u hx6
     have hI := hI.u hx6
     have hB1 := hB1.u hx6
     have hI0 := hI0.u hx6
     have hI1 := hI1.u hx6
     have hCS6 := A8 ([]) w6
     obtain ⟨gA, off, rfl, hFg, hlt, hcell⟩ := hr.at_ (by omega)
     refine Fa M7 rfl (D5 rfl (B2 o71 rfl ‹_› (by simp; done) (by rfl)) ?_)
     refine D5 rfl (B9 Ah3 rfl rfl (by omega) (by omega)) (D5 rfl (J0 (vs := css.getD 0 []) K4 rfl ⟨hlt, fun j v hj => by rw [Dt1]; exact hcell (0 * 7 + j) v (hI.row 0 (by omega) j v hj)⟩ (by simp; done) hlen0) ?_)
     refine Fa M7 rfl (D5 rfl (B2 o71 rfl ‹_› (by simp; done) (by rfl)) ?_)
     refine D5 rfl (B9 Ah3 rfl rfl (by omega) (by omega)) (D5 rfl (J0 (vs := css.getD 1 []) K4 rfl ⟨hlt, fun j v hj => by rw [Dt1]; exact hcell (1 * 7 + j) v (hI.row 1 (by omega) j v hj)⟩ (by simp; done) hlen1) ?_)
     refine C4 rfl (C0 fb69 rfl) (hc 0 (by omega) (css.getD 0 []) F _ (fun z hz => by have := hF z hz; omega) hI0) ?_
     rintro _ w7 ⟨rfl, hx7⟩
     have hz7 := hx7.size
     have hC := hC.s0 hx7
     have hr := hr.u hx7
     have hI := hI.u hx7
     have hB1 := hB1.u hx7
     have hI0 := hI0.u hx7
     have hI1 := hI1.u hx7
     have hCS6 := hCS6.s0 hx7
     refine ⟨hCS6, ?_⟩
     refine Ca fb69 rfl (hc 1 (by omega) (css.getD 1 []) F _ (fun z hz => by have := hF z hz; omega) hI1) ?_
     rintro _ w8 ⟨rfl, hx8⟩
     have hz8 := hx8.size
     have hC := hC.s0 hx8
     have hr := hr.u hx8
     have hI := hI.u hx8
     have hB1 := hB1.u hx8
     have hI0 := hI0.u hx8
     have hI1 := hI1.u hx8
     refine Ca Ce3 rfl (X1 (Ag4 (l.getD 0 default)) (Ag4 (l.getD 1 default)) (R9 _).2 (R9 _).2 _) ?_
     rintro _ _ ⟨rfl, rfl⟩
     exact Zc 1 rfl (A6 (B1 rfl rfl ⟨I9 (by unfold Ce9; rw [Dr1 (Dz6.2 ⟨q0, q4⟩), Dr1 q2, Dr2 q3, hV 0 (by omega), hV 1 (by omega)]), hC⟩))
    ·try simp at q3
     exact A7 (Qd (Zc 1 rfl (A6 (B1 rfl rfl ⟨I9 (by unfold Ce9; rw [Dr1 (Dz6.2 ⟨q0, q4⟩), Dr1 q2, Dr1 q3]), hC⟩))))
mutual
theorem Cs5 : ∀ t : R8, n8s t ≤ 100000 → Bv4 t
 | .node k s lz l, h => by
  rw [n8s] at h
  exact Cz6 k s lz l (by omega) (Cb8 l (by omega))
theorem Cb8 : ∀ l : List R8, n8l l ≤ 100000 → ∀ i, i < l.length → Bv4 (l.getD i default)
 | [], _, i, hi => absurd hi (by simp)
 | t :: r, h, 0, _ => by rw [n8l] at h; exact Cs5 t (by omega)
 | t :: r, h, i + 1, hi => by rw [n8l] at h; rw [Ds7]; exact Cb8 r (by omega) i (by simpa using hi)
end
mutual
theorem Ai3 : ∀ t : R8, n8s t ≤ 100000 → Az6 t
 | .node k s lz l, h => by
  rw [n8s] at h
  exact Cg2 k s lz l (by omega) (Ac4 l (by omega))
theorem Ac4 : ∀ l : List R8, n8l l ≤ 100000 → ∀ i, i < l.length → Az6 (l.getD i default)
 | [], _, i, hi => absurd hi (by simp)
 | t :: r, h, 0, _ => by rw [n8l] at h; exact Ai3 t (by omega)
 | t :: r, h, i + 1, hi => by rw [n8l] at h; rw [Ds7]; exact Ac4 r (by omega) i (by simpa using hi)
end
mutual
theorem Ce8 : ∀ t : R8, G8 t → Ct3 t
 | .node k s lz l, h => by
  rw [G8] at h
  exact Dc3 k s lz l h.1 (Ao4 l h.2)
theorem Ao4 : ∀ l : List R8, G8s l → ∀ i, i < l.length → Ct3 (l.getD i default)
 | [], _, i, hi => absurd hi (by simp)
 | t :: r, h, 0, _ => by rw [G8s] at h; exact Ce8 t h.1
 | t :: r, h, i + 1, hi => by rw [G8s] at h; rw [Ds7]; exact Ao4 r h.2 i (by simpa using hi)
end
def Co7 (a b : List Int) (k : Int) (i : Nat) : Int := Y2 (a.getD i 0) (Ag0 (b.getD i 0) k)
def At4 (a b : List Int) (k : Int) : List Int := (List.range a.length).map (Co7 a b k)
def Ay3 (a b : List Int) (k : Int) (i : Nat) : List Int := (List.range a.length).map fun x => if x < i then Co7 a b k x else 0
theorem Ap3 (a b : List Int) (k : Int) : (At4 a b k).length = a.length := by simp [At4]
theorem Bx7 (a b : List Int) (k : Int) (i : Nat) : (Ay3 a b k i).length = a.length := by simp [Ay3]
theorem Cw2 (a b : List Int) (k : Int) : Ay3 a b k 0 = List.replicate a.length 0 := by
 unfold Ay3
 rw [List.eq_replicate_iff]
 refine ⟨by simp, fun x hx => ?_⟩
 obtain ⟨y, _, rfl⟩ := Dv6.1 hx
 rw [Dr1 (by omega)]
theorem Dg0 (a b : List Int) (k : Int) : Ay3 a b k a.length = At4 a b k := by
 unfold Ay3 At4
 apply List.map_congr_left
 intro x hx
 rw [Dr2 (Du0.1 hx)]
theorem Df9 (a b : List Int) (k : Int) (i : Nat) : (Ay3 a b k i).set i (Co7 a b k i) = Ay3 a b k (i + 1) := by
 apply Ds9
 intro j
 simp only [Ay3, Dt5, Dt6, Dx3, Dy3]
 by_cases hj : i = j
 ·subst hj
  by_cases h : i < a.length
  ·simp [h]
  ·simp [Dt3 (l := List.range a.length) (i := i) (by simp; omega), h]
 ·simp only [Dr1 hj]
  by_cases h : j < a.length
  ·simp only [Dt9 h, Du4]
   congr 1
   by_cases h2 : j < i
   ·simp [h2, show j < i + 1 by omega]
   ·simp [h2, show ¬ j < i + 1 by omega]
  ·simp [Dt3 (l := List.range a.length) (i := j) (by simp; omega)]
theorem Ay7 (a b : List Int) (k : Int) : rangeOk (At4 a b k) := fun x hx => by
 obtain ⟨i, _, rfl⟩ := Dv6.1 hx
 exact L4 _ _
theorem rplus_c (a b : List Int) (k : Int) (ba bb : Nat) (w : World) (hab : b.length = a.length) (hal : a.length ≤ 1000000) (ha : rangeOk a) (hb : rangeOk b) (hk : k ≤ 9223372036854775807) (hA : Blk w ba (H6 a) 3) (hBb : Blk w bb (H6 b) 3) :
  Calls P 136 #[.slice (some ⟨ba, 0, none⟩) a.length a.length, .slice (some ⟨bb, 0, none⟩) a.length a.length, .int .i64 k] w (Ret fun u w' => Chg [] w w' ∧ ∃ p, u = .slice (some ⟨p, 0, none⟩) a.length a.length ∧ w.heap.size ≤ p ∧ Blk w' p (H6 (At4 a b k)) 3) := by
 have hC := A8 [] w
 have hla := hA.lt
 have hlb := hBb.lt
 refine D3 Tryz.func136 rfl rfl (Qd (Zc 1 rfl (Qd (Z 1 rfl (Ln Tryz.underlying24 rfl (B4 rfl (L8 Cr7 zr3 rfl (cs := H6 (List.replicate a.length 0)) (by omega) (by omega) (by show (madeCells #[_] (((a.length : Nat) : Int).toNat * 1)).toList = _; rw [Ds1, Dv1, P9]; simp [H6])) ?_))))))
 intro b1 w1 hb1 hs1 hx1 hB1
 have hC := hC.s0 hx1
 have hA := hA.u hx1
 have hBb := hBb.u hx1
 refine Zc 1 rfl (Qa (Qd ?_))
 have hB1' : Blk w1 b1 (H6 (Ay3 a b k 0)) 3 := by rw [Cw2]; assumption
 refine Zc 1 rfl (B0 (D7 (σ := Nat) (fun i => [(0, .slice (some ⟨ba, 0, none⟩) a.length a.length), (1, .slice (some ⟨bb, 0, none⟩) a.length a.length), (2, .int .i64 k), (7, .slice (some ⟨b1, 0, none⟩) a.length a.length), (8, .int .i64 i)]) (fun i wr => Chg [] w wr ∧ Blk wr ba (H6 a) 3 ∧ Blk wr bb (H6 b) 3 ∧ Blk wr b1 (H6 (Ay3 a b k i)) 3 ∧ i ≤ a.length) (fun i wr => a.length - i) 0 (sb rfl) ?_ ?_))
 ·exact ⟨hC, hA, hBb, hB1', Ds0 _⟩
 rintro i w9 ⟨hC, hA, hBb, hBo, hi⟩
 refine Qa (Qd (Z 2 rfl (Ln Tryz.underlying24 rfl (Zc 1 rfl (A4 rfl (fun h1 => ?_) (fun h1 => ?_))))))
 ·try simp at h1
  have hin : i < a.length := by omega
  have hva := ha.get i
  have hvb := hb.get i
  refine A7 (Qa (B0 (C6 (S := []) 13 [(0, 0), (0, 1), (0, 2), (0, 3), (0, 4), (0, 5), (0, 6), (0, 7), (0, 8), (0, 9), (0, 10), (1, 11), (1, 12), (2, 13), (2, 14)] mo (by kernel_rfl) ?_)))
  intro w2 hx2 hh2
  have hz2 := hx2.size
  have hA := hA.u hx2
  have hBb := hBb.u hx2
  have hBo := hBo.u hx2
  have hCS2 := A8 ([]) w2
  have hra := hA.rd (F := fun _ => True) (sz := 1) (m := a.length) (by rw [F7, Dv1]) trivial
  have hca := (hra.one (K2 a i hin)).2
  have hrb := hBb.rd (F := fun _ => True) (sz := 1) (m := a.length) (by rw [F7, Dv1]; exact hab) trivial
  have hcb := (hrb.one (K2 b i (by omega))).2
  refine Z 4 rfl (D5 rfl (B3 T3 rfl rfl (by omega) (by omega)) (D5 rfl (E5 o3 rfl hca (by simp; done)) ?_))
  refine Z 2 rfl (D5 rfl (B3 T3 rfl rfl (by omega) (by omega)) (D5 rfl (E5 o3 rfl hcb (by simp; done)) ?_))
  refine Z 1 rfl (C4 rfl (C0 fb50 rfl) (rmul_c (b.getD i 0) k hvb.2 hk _) ?_)
  rintro _ _ ⟨rfl, rfl⟩
  refine ⟨hCS2, ?_⟩
  refine C4 rfl (C0 Ce3 rfl) (X1 (a.getD i 0) (Ag0 (b.getD i 0) k) hva.2 (Y1 _ _).2 _) ?_
  rintro _ _ ⟨rfl, rfl⟩
  refine ⟨hCS2, ?_⟩
  refine C7 rfl (B3 T3 rfl rfl (by omega) (by omega)) (Pb (cs' := (H6 (Ay3 a b k (i + 1)))) sz3 rfl rfl hBo rfl rfl rfl (by rw [F7, Bx7, Dw7]; omega) (by rw [Ds1, Dt2, U8 _ _ _ (by rw [F7, Bx7]; exact hin), ← Df9 a b k i]; simp [H6, Dx7, Co7]) ?_)
  intro w5 hs5 hx5 hBo
  have hC := hC.step (hx2.j hx5) (by simp <;> omega)
  have hA := hA.q hx5 (by simp; omega)
  have hBb := hBb.q hx5 (by simp; omega)
  refine Qc (Qb (Z 1 rfl (Ad rfl rfl (by omega) (Zc 1 rfl ⟨i + 1, sb rfl, ?_, ?_⟩))))
  exact ⟨hC, hA, hBb, hBo, hin⟩
  show a.length - (i + 1) < a.length - i
  omega
 ·try simp at h1
  have hii : i = a.length := by omega
  subst hii
  exact Xb (Qd (Zc 2 rfl (A6 (B1 rfl rfl ⟨hC, b1, rfl, by omega, by rw [← Dg0]; exact hBo⟩))))
def sum1 (n x : Int) : Int := min (n + min (max x 0) 1000) 2000
def sumR (l : List Int) : Int := l.foldl sum1 0
theorem Bj1 (l : List Int) : ∀ n, 0 ≤ n ∧ n ≤ 2000 → 0 ≤ l.foldl sum1 n ∧ l.foldl sum1 n ≤ 2000 := by
 induction l with
 | nil => intro n h; exact h
 | cons x r ih => intro n h; exact ih _ (by unfold sum1; omega)
theorem rsum_c (l : List Int) (b : Nat) (w : World) (hl : l.length ≤ 1000000) (hB0 : Blk w b (H6 l) 3) : Calls P 93 #[.slice (some ⟨b, 0, none⟩) l.length l.length] w (Ret fun u w' => u = .int .i64 (sumR l) ∧ Chg [] w w') := by
 have hC := A8 [] w
 refine D3 Tryz.func93 rfl rfl (Qd (Zc 1 rfl (Qd (Zc 1 rfl (Qa (Qd (Zc 1 rfl (B0 (D7 (σ := Nat) (fun i => [(0, .slice (some ⟨b, 0, none⟩) l.length l.length), (3, .int .i64 ((l.take i).foldl sum1 0)), (4, .int .i64 i)]) (fun i wr => Chg [] w wr ∧ Blk wr b (H6 l) 3 ∧ i ≤ l.length) (fun i wr => l.length - i) 0 (sb rfl) ?_ ?_)))))))))
 ·exact ⟨hC, hB0, Ds0 _⟩
 rintro i w9 ⟨hC, hB0, hi⟩
 have hsr := Bj1 (l.take i) 0 (by omega)
 refine Qa (Qd (Z 2 rfl (Ln Tryz.underlying24 rfl (Zc 1 rfl (A4 rfl (fun h1 => ?_) (fun h1 => ?_))))))
 ·try simp at h1
  have hin : i < l.length := by omega
  have hra := hB0.rd (F := fun _ => True) (sz := 1) (m := l.length) (by rw [F7, Dv1]) trivial
  have hca := (hra.one (K2 l i hin)).2
  refine A7 (Qa (B0 (Qb (Z 3 rfl (C7 rfl (B3 T3 rfl rfl (by omega) (by omega)) (Lc o3 rfl hca (C7 rfl (Af8 rfl rfl) (C7 rfl (V7 rfl rfl) (Ad rfl rfl (by omega) (C7 rfl (V7 rfl rfl) (Zc 1 rfl (Qb (Z 1 rfl (Ad rfl rfl (by omega) (Zc 1 rfl ⟨i + 1, ⟨rfl, (F9 rfl (by rw [Dw6 hin, Dt0]; simp [sum1, Dr3, Dr5 hin])), rfl, trivial⟩, ?_, ?_⟩)))))))))))))))
  exact ⟨hC, hB0, hin⟩
  show l.length - (i + 1) < l.length - i
  omega
 ·try simp at h1
  have hii : i = l.length := by omega
  subst hii
  exact Xb (Qd (Zc 2 rfl (A6 (B1 rfl rfl ⟨I9 (by rw [Dv3]; rfl), hC⟩))))
mutual
theorem Cn6 : ∀ t : R8, (Am5 t).length ≤ n8s t
 | .node k s lz l => by
  have := Ba2 l
  rw [Am5, n8s, Dr7]
  split <;> simp <;> omega
theorem Ba2 : ∀ l : List R8, (O9 l).length ≤ n8l l
 | [] => by rw [O9]; exact Ds0 _
 | t :: r => by
  have := Cn6 t
  have := Ba2 r
  rw [O9, n8l, Dr7]
  omega
end
def Ct6 (t : R8) : Prop := ∀ (cs : List Value) (F : Nat → Prop) (w : World), (∀ x, F x → x < w.heap.size) → N8 F w t cs → Calls P 68 #[.agg cs.toArray] w (Ret fun u w' => Chg [] w w' ∧ ∃ A c, u = .slice A (Am5 t).length c ∧ Rd (FR w.heap.size w'.heap.size []) w' 4 A (Am5 t).length (F1 (Am5 t)))
theorem Dd8 (k : Int) (s : Nat) (lz : Bool) (l : List R8) (hb : n8l l ≤ 100000) (hc : ∀ i, i < l.length → Ct6 (l.getD i default)) : Ct6 (.node k s lz l) := by
 intro cs F w hF hN
 have hC := A8 [] w
 have hll := Bq7 l
 obtain ⟨A, c, css, rfl, hr, hI⟩ := hN.open
 rw [Am5]
 generalize ho0 : (if k = 1 then [s] else []) = o0 at *
 refine D3 Tryz.func68 rfl rfl (Qd (B4 rfl (E0 rfl rfl) ?_))
 intro b1 w1 hb1 hs1 hx1 hB1
 have hC := hC.s0 hx1
 have hr := hr.u hx1
 have hI := hI.u hx1
 refine Zc 1 rfl (Qd (Zc 1 rfl (I1 (fun e9 wr => ∃ A' c', Sub [(1, .pointer (some ⟨b1, 0, none⟩)), (3, .slice A' o0.length c')] e9 ∧ Chg [] w wr ∧ Rd F wr 7 A l.length (List.flatten css) ∧ N8r F wr l css ∧ Blk wr b1 (n8C k s lz A l.length c) 73 ∧ Own wr (b1 + 1) 70 4 A' o0.length c' (F1 o0)) ?_ ?_)))
 ·refine Qd (Fa Aq7 rfl (Lb o3 rfl ‹_› (by rfl) ?_))
  refine Zc 1 rfl (A4 rfl (fun q1 => ?_) (fun q1 => ?_))
  ·try simp at q1
   have hO := Own.nil w1 (b1 + 1) 70 4
   refine Qb (Z 1 rfl (Fa fl73_1 rfl (La I5 rfl ‹_› (by rfl) rfl ?_)))
   refine B4 rfl (B5 Al6 Tryz.underlying23 K5 rfl rfl rfl (by rfl)) ?_
   intro b2 w2 hb2 hs2 hx2 hB2
   have hO := hO.u hx2
   refine G5 rfl el23 rfl rfl hO (Blk.rd (F := fun _ => True) ‹_› rfl trivial) (by rfl) (by omega) (by omega) ?_
   intro A2' c2' w3 hO3 hx3 hA2'
   have hC := hC.s0 (hx2.s0 hx3)
   have hr := hr.u (hx2.s0 hx3)
   have hI := hI.u (hx2.s0 hx3)
   have hB1 := hB1.u (hx2.s0 hx3)
   replace hO := hO3
   rw [Dr2 q1] at ho0
   subst ho0
   refine Zc 1 rfl ⟨A2', c2', sb rfl, ?_⟩
   exact ⟨hC, hr, hI, hB1, hO⟩
  ·try simp at q1
   rw [Dr1 q1] at ho0
   subst ho0
   refine A7 ⟨none, 0, sb rfl, ?_⟩
   exact ⟨hC, hr, hI, hB1, Own.nil _ _ _ _⟩
 rintro e9 w8 ⟨A', c', hs9, hC, hr, hI, hB1, hO⟩
 refine I0 _ hs9 ?_
 clear hs9 e9
 have ho0l : o0.length ≤ 1 := by rw [← ho0]; split <;> simp
 refine Qa (Qd (Zc 1 rfl (B0 (D7 (σ := Nat × Option Addr × Nat) (fun (i, A', c') => [(1, .pointer (some ⟨b1, 0, none⟩)), (3, .slice A' (o0 ++ O9 (l.take i)).length c'), (4, .int .i64 (i : Nat))]) (fun (i, A', c') wr => Chg [] w wr ∧ Rd F wr 7 A l.length (List.flatten css) ∧ N8r F wr l css ∧ Blk wr b1 (n8C k s lz A l.length c) 73 ∧ Own wr (b1 + 1) 70 4 A' (o0 ++ O9 (l.take i)).length c' (F1 (o0 ++ O9 (l.take i))) ∧ i ≤ l.length) (fun (i, A', c') wr => l.length - i) (0, A', c') ⟨rfl, (S6 rfl (by rw [Dz4, O9, Dx4])), rfl, trivial⟩ ?_ ?_))))
 ·exact ⟨hC, hr, hI, hB1, by rw [Dz4, O9, Dx4]; exact hO, Ds0 _⟩
 rintro ⟨i, A', c'⟩ w9 ⟨hC, hr, hI, hB1, hO, hi⟩
 have hOb := hO.blk
 try have hlB1 := hB1.lt
 refine Qa (Qd (Z 1 rfl (Fa M7 rfl (Lb o71 rfl ‹_› (by rfl) ?_))))
 refine Ln Tryz.underlying71 rfl (Zc 1 rfl (A4 rfl (fun h1 => ?_) (fun h1 => ?_)))
 ·try simp at h1
  have hin : i < l.length := by omega
  have hIi := hI.get i hin
  have hlen := hIi.len
  have hl1 := Ba2 (l.take i)
  have hl2 := Ae6 l i
  have hl3 := Cn6 (l.getD i default)
  have hl4 := n8l_get l i hin
  have hl5 : (o0 ++ O9 (l.take i)).length ≤ 100001 := by rw [Dr7]; omega
  obtain ⟨gA, off, rfl, hFg, hlt, hcell⟩ := hr.at_ (by omega)
  refine A7 (Qa (B0 (Qb (Z 1 rfl (Fa M7 rfl (Lb o71 rfl ‹_› (by rfl) ?_))))))
  refine Z 1 rfl (C7 rfl (B9 Ah3 rfl rfl (by omega) (by omega)) (C7 rfl (E4 (vs := css.getD i []) K4 rfl (E9 _) (fun j v hj => by rw [Dt1]; exact hcell (i * 7 + j) v (hI.row i hin j v hj)) hlen) ?_))
  refine Ca fb68 rfl (hc i hin (css.getD i []) F _ (fun z hz => by have := hF z hz; omega) hIi) ?_
  rintro _ w4 ⟨hx4, A3, c3, rfl, hr3⟩
  have hz4 := hx4.size
  have hC := hC.s0 hx4
  have hr := hr.u hx4
  have hI := hI.u hx4
  have hB1 := hB1.u hx4
  have hO := hO.u hx4
  have hE : o0 ++ O9 (l.take (i + 1)) = (o0 ++ O9 (l.take i)) ++ Am5 (l.getD i default) := by rw [Cf4 l i hin, List.append_assoc]
  have hEl : (o0 ++ O9 (l.take (i + 1))).length = (o0 ++ O9 (l.take i)).length + (Am5 (l.getD i default)).length := by rw [hE, Dr7]
  refine G5 rfl el23 rfl rfl hO (hr3) (by exact Dp3 _) (by omega) (by omega) ?_
  intro A2' c2' w5 hO5 hx5 hA2'
  have hC := hC.step hx5 (by intro x h; have := hOb x h; exact .inr (by omega))
  have hr := hr.q hx5 (by intro x hx hf; have := hOb x hx; have := hF x hf; omega)
  have hI := hI.q hx5 (by intro x hx hf; have := hOb x hx; have := hF x hf; omega)
  have hB1 := hB1.q hx5 (by intro h; have := hOb _ h; omega)
  replace hO := hO5
  refine Zc 1 rfl (Qb (Z 1 rfl (Ad rfl rfl (by omega) (Zc 1 rfl ⟨(i + 1, A2', c2'), ⟨rfl, (S6 rfl (by rw [hEl])), rfl, trivial⟩, ?_, ?_⟩))))
  refine ⟨hC, hr, hI, hB1, ?_, hin⟩
  rw [hEl, hE, R5 (o0 ++ O9 (l.take i))]
  exact hO
  show l.length - (i + 1) < l.length - i
  omega
 ·try simp at h1
  have hii : i = l.length := by omega
  subst hii
  rw [Dv3] at hO
  exact Xb (Qd (Zc 2 rfl (A6 (B1 rfl rfl ⟨hC, A', c', by rw [Dv3], hO.rd fun z h1 h2 => ⟨by omega, h2, by simp⟩⟩))))
mutual
theorem De0 : ∀ t : R8, n8s t ≤ 100000 → Ct6 t
 | .node k s lz l, h => by
  rw [n8s] at h
  exact Dd8 k s lz l (by omega) (Cn5 l (by omega))
theorem Cn5 : ∀ l : List R8, n8l l ≤ 100000 → ∀ i, i < l.length → Ct6 (l.getD i default)
 | [], _, i, hi => absurd hi (by simp)
 | t :: r, h, 0, _ => by rw [n8l] at h; exact De0 t (by omega)
 | t :: r, h, i + 1, hi => by rw [n8l] at h; rw [Ds7]; exact Cn5 r (by omega) i (by simpa using hi)
end
def Bu9 (t : R8) : Prop := ∀ (cs : List Value) (F : Nat → Prop) (w : World), (∀ x, F x → x < w.heap.size) → N8 F w t cs → Calls P 92 #[.agg cs.toArray] w (Ret fun u w' => u = .bool (Bc9 t) ∧ Chg [] w w')
theorem Cx6 (k : Int) (s : Nat) (lz : Bool) (l : List R8) (hk : K8 k l.length) (hg : G8s l) (hc : ∀ i, i < l.length → Bu9 (l.getD i default)) : Bu9 (.node k s lz l) := by
 intro cs F w hF hN
 have hC := A8 [] w
 have hl2 : l.length ≤ 2 := by rcases hk with h | h | h | h <;> omega
 obtain ⟨A, c, css, rfl, hr, hI⟩ := hN.open
 rw [Bc9]
 refine D3 Tryz.func92 rfl rfl (Qd (B4 rfl (E0 rfl rfl) ?_))
 intro b1 w1 hb1 hs1 hx1 hB1
 have hC := hC.s0 hx1
 have hr := hr.u hx1
 have hI := hI.u hx1
 refine Zc 1 rfl (Qa (Qd (Fa Aq7 rfl (Lb o3 rfl ‹_› (by rfl) ?_))))
 refine Z 2 rfl (B7 (d := 7) rfl (fun q4 => ?_) (fun q4 => ?_))
 ·try simp at q4
  have hl1 : l.length = 1 := by rcases hk with h | h | h | h <;> omega
  have hI0 := hI.get 0 (by omega)
  have hlen0 := hI0.len
  obtain ⟨gA, off, rfl, hFg, hlt, hcell⟩ := hr.at_ (by omega)
  refine Qu rfl (Fa M7 rfl (Qu rfl (Lb o71 rfl ‹_› (by rfl) ?_)))
  refine Qu rfl (C7 rfl (B9 Ah3 rfl rfl (by omega) (by omega)) (Qu rfl (C7 rfl (E4 (vs := css.getD 0 []) K4 rfl (E9 _) (fun j v hj => by rw [Dt1]; exact hcell (0 * 7 + j) v (hI.row 0 (by omega) j v hj)) hlen0) ?_)))
  refine Qu rfl (Ca fb69 rfl (Ao4 l hg 0 (by omega) (css.getD 0 []) F _ (fun z hz => by have := hF z hz; omega) hI0) ?_)
  rintro _ w2 ⟨rfl, hx2⟩
  have hC := hC.s0 hx2
  have hr := hr.u hx2
  have hI := hI.u hx2
  have hB1 := hB1.u hx2
  have hv0 := As6 l 0 (by omega)
  refine Qu rfl (Zc 2 rfl (A4 rfl (fun g0 => ?_) (fun g0 => ?_)))
  ·rw [cmpB_gtr] at g0
   exact Qd (Zc 1 rfl (A6 (B1 rfl rfl ⟨H9 (by rw [hv0, Ds2 q4, Ds2 g0]; rfl), hC⟩)))
  ·rw [cmpB_gtrF] at g0
   have hfst : (decide (k = 4) && decide (300 < (Al5 l).getD 0 0)) = false := by rw [hv0, Ds4 (p := 300 < _) (by omega), Bool.and_false]
   rw [hfst, Dy7]
   refine A7 (Qa (Qd (Zc 1 rfl (B0 (D7 (σ := Nat) (fun i => [(1, .pointer (some ⟨b1, 0, none⟩)), (3, .int .i64 (i : Nat))]) (fun i wr => Chg [] w wr ∧ Rd F wr 7 (some ⟨gA, off, none⟩) l.length (List.flatten css) ∧ N8r F wr l css ∧ Blk wr b1 (n8C k s lz (some ⟨gA, off, none⟩) l.length c) 73 ∧ W7 (l.take i) = false ∧ i ≤ l.length) (fun i wr => l.length - i) 0 (sb rfl) ?_ ?_)))))
   ·exact ⟨hC, hr, hI, hB1, by rw [Dz4, W7], Ds0 _⟩
   rintro i w9 ⟨hC, hr, hI, hB1, hlp, hi⟩
   try have hlB1 := hB1.lt
   refine Qa (Qd (Z 1 rfl (Fa M7 rfl (Lb o71 rfl ‹_› (by rfl) ?_))))
   refine Ln Tryz.underlying71 rfl (Zc 1 rfl (A4 rfl (fun h1 => ?_) (fun h1 => ?_)))
   ·try simp at h1
    have hin : i < l.length := by omega
    have hIi := hI.get i hin
    have hlen := hIi.len
    obtain ⟨gB, off2, hAE, hFg2, hlt2, hcell2⟩ := hr.at_ (by omega)
    cases hAE
    refine A7 (Qa (B0 (Qd (Fa M7 rfl (Lb o71 rfl ‹_› (by rfl) ?_)))))
    refine Z 1 rfl (C7 rfl (B9 Ah3 rfl rfl (by omega) (by omega)) (C7 rfl (E4 (vs := css.getD i []) K4 rfl (E9 _) (fun j v hj => by rw [Dt1]; exact hcell2 (i * 7 + j) v (hI.row i hin j v hj)) hlen) ?_))
    refine Ca fb92 rfl (hc i hin (css.getD i []) F _ (fun z hz => by have := hF z hz; omega) hIi) ?_
    rintro _ w3 ⟨rfl, hx3⟩
    have hC := hC.s0 hx3
    have hr := hr.u hx3
    have hI := hI.u hx3
    have hB1 := hB1.u hx3
    refine Qc (A4 rfl (fun g2 => ?_) (fun g2 => ?_))
    ·try simp at g2
     exact Qd (Zc 1 rfl (A6 (B1 rfl rfl ⟨H9 (Bc8 hin g2).symm, hC⟩)))
    ·try simp at g2
     refine A7 (Qb (Z 1 rfl (Ad rfl rfl (by omega) (Zc 1 rfl ⟨i + 1, sb rfl, ?_, ?_⟩))))
     exact ⟨hC, hr, hI, hB1, by rw [Aw6 l i hin, hlp, Dy7]; simpa using g2, hin⟩
     show l.length - (i + 1) < l.length - i
     omega
   ·try simp at h1
    have hii : i = l.length := by omega
    subst hii
    rw [Dv3] at hlp
    exact Xb (Qd (Zc 1 rfl (A6 (B1 rfl rfl ⟨H9 hlp.symm, hC⟩))))
 ·try simp at q4
  have hfst : (decide (k = 4) && decide (300 < (Al5 l).getD 0 0)) = false := by rw [Ds4 (p := k = 4) q4, Bool.false_and]
  rw [hfst, Dy7]
  refine Qk rfl (Qk rfl (Qk rfl (Qk rfl (Qk rfl (Qk rfl (Zc 1 rfl (E3 rfl (A7 (Qa (Qd (Zc 1 rfl (B0 (D7 (σ := Nat) (fun i => [(1, .pointer (some ⟨b1, 0, none⟩)), (3, .int .i64 (i : Nat))]) (fun i wr => Chg [] w wr ∧ Rd F wr 7 A l.length (List.flatten css) ∧ N8r F wr l css ∧ Blk wr b1 (n8C k s lz A l.length c) 73 ∧ W7 (l.take i) = false ∧ i ≤ l.length) (fun i wr => l.length - i) 0 (sb rfl) ?_ ?_)))))))))))))
  ·exact ⟨hC, hr, hI, hB1, by rw [Dz4, W7], Ds0 _⟩
  rintro i w9 ⟨hC, hr, hI, hB1, hlp, hi⟩
  try have hlB1 := hB1.lt
  refine Qa (Qd (Z 1 rfl (Fa M7 rfl (Lb o71 rfl ‹_› (by rfl) ?_))))
  refine Ln Tryz.underlying71 rfl (Zc 1 rfl (A4 rfl (fun h1 => ?_) (fun h1 => ?_)))
  ·try simp at h1
   have hin : i < l.length := by omega
   have hIi := hI.get i hin
   have hlen := hIi.len
   obtain ⟨gB, off2, hAE, hFg2, hlt2, hcell2⟩ := hr.at_ (by omega)
   subst hAE
   refine A7 (Qa (B0 (Qd (Fa M7 rfl (Lb o71 rfl ‹_› (by rfl) ?_)))))
   refine Z 1 rfl (C7 rfl (B9 Ah3 rfl rfl (by omega) (by omega)) (C7 rfl (E4 (vs := css.getD i []) K4 rfl (E9 _) (fun j v hj => by rw [Dt1]; exact hcell2 (i * 7 + j) v (hI.row i hin j v hj)) hlen) ?_))
   refine Ca fb92 rfl (hc i hin (css.getD i []) F _ (fun z hz => by have := hF z hz; omega) hIi) ?_
   rintro _ w4 ⟨rfl, hx4⟩
   have hC := hC.s0 hx4
   have hr := hr.u hx4
   have hI := hI.u hx4
   have hB1 := hB1.u hx4
   refine Qc (A4 rfl (fun g2 => ?_) (fun g2 => ?_))
   ·try simp at g2
    exact Qd (Zc 1 rfl (A6 (B1 rfl rfl ⟨H9 (Bc8 hin g2).symm, hC⟩)))
   ·try simp at g2
    refine A7 (Qb (Z 1 rfl (Ad rfl rfl (by omega) (Zc 1 rfl ⟨i + 1, sb rfl, ?_, ?_⟩))))
    exact ⟨hC, hr, hI, hB1, by rw [Aw6 l i hin, hlp, Dy7]; simpa using g2, hin⟩
    show l.length - (i + 1) < l.length - i
    omega
  ·try simp at h1
   have hii : i = l.length := by omega
   subst hii
   rw [Dv3] at hlp
   exact Xb (Qd (Zc 1 rfl (A6 (B1 rfl rfl ⟨H9 hlp.symm, hC⟩))))
mutual
theorem Cq2 : ∀ t : R8, G8 t → Bu9 t
 | .node k s lz l, h => by
  rw [G8] at h
  exact Cx6 k s lz l h.1 h.2 (Bz4 l h.2)
theorem Bz4 : ∀ l : List R8, G8s l → ∀ i, i < l.length → Bu9 (l.getD i default)
 | [], _, i, hi => absurd hi (by simp)
 | t :: r, h, 0, _ => by rw [G8s] at h; exact Cq2 t h.1
 | t :: r, h, i + 1, hi => by rw [G8s] at h; rw [Ds7]; exact Bz4 r h.2 i (by simpa using hi)
end
def Cb2 (k : Int) (l : List R8) (fs : List (Nat → Nat → Bool → List Int)) (at_ all : Nat) (last : Bool) : List Int :=
 if k = 0 then List.replicate all 0
 else if k = 1 then (List.replicate all 0).set at_ 1
 else if k = 4 then fs.getD 0 (fun _ _ _ => []) at_ all last
 else if k = 3 then At4 (fs.getD 0 (fun _ _ _ => []) at_ all last) (fs.getD 1 (fun _ _ _ => []) (at_ + D8 (l.getD 0 default)) all last) 1
 else if last = true then At4 (fs.getD 1 (fun _ _ _ => []) (at_ + D8 (l.getD 0 default)) all last) (fs.getD 0 (fun _ _ _ => []) at_ all last) (Ag4 (l.getD 1 default))
 else At4 (fs.getD 0 (fun _ _ _ => []) at_ all last) (fs.getD 1 (fun _ _ _ => []) (at_ + D8 (l.getD 0 default)) all last) (Ag4 (l.getD 0 default))
mutual
def Z8 : R8 → Nat → Nat → Bool → List Int
 | .node k _ _ l => Cb2 k l (Ar1 l)
def Ar1 : List R8 → List (Nat → Nat → Bool → List Int)
 | [] => []
 | t :: r => Z8 t :: Ar1 r
end
theorem Au5 : ∀ (l : List R8) (i : Nat), i < l.length → (Ar1 l).getD i (fun _ _ _ => []) = Z8 (l.getD i default)
 | [], i, h => by simp at h
 | t :: r, 0, _ => by rw [Ar1]; rfl
 | t :: r, i + 1, h => by rw [Ar1, Ds7, Ds7]; exact Au5 r i (by simpa using h)
theorem Ai1 (n : Nat) : rangeOk (List.replicate n 0) := fun x hx => by rw [(List.mem_replicate.1 hx).2]; omega
theorem Cf9 {l : List Int} (h : rangeOk l) (i : Nat) (v : Int) (hv : 0 ≤ v ∧ v ≤ 9223372036854775807) : rangeOk (l.set i v) := fun x hx => by
 rcases List.mem_or_eq_of_mem_set hx with h1 | rfl
 ·exact h x h1
 ·exact hv
def EndOk (t : R8) : Prop := ∀ at_ all last, (Z8 t at_ all last).length = all ∧ rangeOk (Z8 t at_ all last)
mutual
theorem Cr5 : ∀ t : R8, G8 t → EndOk t
 | .node k s lz l, h => fun at_ all last => by
  rw [G8] at h
  have hs := Aq9 l h.2
  rw [Z8]
  have hg : ∀ i, i < l.length → ∀ a, ((Ar1 l).getD i (fun _ _ _ => []) a all last).length = all ∧ rangeOk ((Ar1 l).getD i (fun _ _ _ => []) a all last) := fun i hi a => by
   rw [Au5 l i hi]
   exact hs i hi a all last
  unfold Cb2
  split
  ·exact ⟨by simp, Ai1 _⟩
  split
  ·exact ⟨by simp, Cf9 (Ai1 _) _ _ (by omega)⟩
  split
  ·exact hg 0 (by rcases h.1 with h | h | h | h <;> omega) _
  have hl : l.length = 2 := by rcases h.1 with h | h | h | h <;> omega
  split
  ·exact ⟨by rw [Ap3]; exact (hg 0 (by omega) _).1, Ay7 _ _ _⟩
  split
  ·exact ⟨by rw [Ap3]; exact (hg 1 (by omega) _).1, Ay7 _ _ _⟩
  ·exact ⟨by rw [Ap3]; exact (hg 0 (by omega) _).1, Ay7 _ _ _⟩
theorem Aq9 : ∀ l : List R8, G8s l → ∀ i, i < l.length → EndOk (l.getD i default)
 | [], _, i, hi => absurd hi (by simp)
 | t :: r, h, 0, _ => by rw [G8s] at h; exact Cr5 t h.1
 | t :: r, h, i + 1, hi => by rw [G8s] at h; rw [Ds7]; exact Aq9 r h.2 i (by simpa using hi)
end
theorem Bp5 (a b : List Int) (k : Int) (n ba bb : Nat) (w : World) (hna : a.length = n) (hnb : b.length = n) (hal : n ≤ 1000000) (ha : rangeOk a) (hb : rangeOk b) (hk : k ≤ 9223372036854775807) (hA : Blk w ba (H6 a) 3) (hBb : Blk w bb (H6 b) 3) :
  Calls P 136 #[.slice (some ⟨ba, 0, none⟩) n n, .slice (some ⟨bb, 0, none⟩) n n, .int .i64 k] w (Ret fun u w' => Chg [] w w' ∧ ∃ p, u = .slice (some ⟨p, 0, none⟩) n n ∧ w.heap.size ≤ p ∧ Blk w' p (H6 (At4 a b k)) 3) := by
 subst hna
 exact rplus_c a b k ba bb w hnb hal ha hb hk hA hBb
def Ct9 (t : R8) : Prop := ∀ (cs : List Value) (F : Nat → Prop) (w : World) (at_ all : Nat) (last : Bool), at_ + D8 t ≤ all → all ≤ 100000 → (∀ x, F x → x < w.heap.size) → N8 F w t cs → Calls P 100 #[.agg cs.toArray, .int .i64 (at_ : Nat), .int .i64 (all : Nat), .bool last] w (Ret fun u w' => Chg [] w w' ∧ ∃ p, u = .slice (some ⟨p, 0, none⟩) all all ∧ w.heap.size ≤ p ∧ Blk w' p (H6 (Z8 t at_ all last)) 3)
theorem Dm5 (k : Int) (s : Nat) (lz : Bool) (l : List R8) (hk : K8 k l.length) (hg : G8s l) (hb : n8l l ≤ 100000) (hc : ∀ i, i < l.length → Ct9 (l.getD i default)) : Ct9 (.node k s lz l) := by
 intro cs F w at_ all last hat hall hF hN
 have hC := A8 [] w
 obtain ⟨A, c, css, rfl, hr, hI⟩ := hN.open
 have hE : ∀ i, i < l.length → (Ar1 l).getD i (fun _ _ _ => []) = Z8 (l.getD i default) := fun i => Au5 l i
 have hOk : ∀ i, i < l.length → EndOk (l.getD i default) := Aq9 l hg
 rw [D8] at hat
 rw [Z8]
 generalize Ar1 l = fs at *
 refine D3 Tryz.func100 rfl rfl (Qd (B4 rfl (E0 rfl rfl) ?_))
 intro b1 w1 hb1 hs1 hx1 hB1
 have hC := hC.s0 hx1
 have hr := hr.u hx1
 have hI := hI.u hx1
 refine Zc 1 rfl (Qa (Qd (Fa Aq7 rfl (Lb o3 rfl ‹_› (by rfl) ?_))))
 refine Qc (B0 (Qd (Zc 2 rfl (A4 rfl (fun q0 => ?_) (fun q0 => ?_)))))
 ·try simp at q0
  refine Qd (Z 1 rfl (B4 rfl (L8 Cr7 zr3 rfl (cs := H6 (List.replicate all 0)) (by omega) (by omega) (by show (madeCells #[_] (((all : Nat) : Int).toNat * 1)).toList = _; rw [Ds1, Dv1, P9]; simp [H6])) ?_))
  intro b2 w2 hb2 hs2 hx2 hB2
  have hC := hC.s0 hx2
  exact Zc 1 rfl (A6 (B1 rfl rfl ⟨hC, _, rfl, by omega, by unfold Cb2; rw [Dr2 q0]; assumption⟩))
 ·try simp at q0
  refine Qd (Zc 2 rfl (A4 rfl (fun q1 => ?_) (fun q1 => ?_)))
  ·try simp at q1
   rw [Dr2 q1] at hat
   refine Qd (Z 1 rfl (B4 rfl (L8 Cr7 zr3 rfl (cs := H6 (List.replicate all 0)) (by omega) (by omega) (by show (madeCells #[_] (((all : Nat) : Int).toNat * 1)).toList = _; rw [Ds1, Dv1, P9]; simp [H6])) ?_))
   intro b3 w3 hb3 hs3 hx3 hB3
   refine Zc 1 rfl (Qd (Z 2 rfl (C7 rfl (B3 T3 rfl rfl (by omega) (by omega)) (Pb (cs' := (H6 ((List.replicate all 0).set at_ 1))) sz3 rfl rfl hB3 rfl rfl rfl (by rw [F7, Du6, Dw7]; omega) (by rw [Ds1, Dt2, U8 _ _ _ (by rw [F7, Du6]; omega)]; simp [H6, Dx7]) ?_))))
   intro w4 hs4 hx4 hB3
   have hC := hC.step (hx3.j hx4) (by simp <;> omega)
   exact Qc (Qd (Zc 2 rfl (A6 (B1 rfl rfl ⟨hC, _, rfl, by omega, by unfold Cb2; rw [Dr1 q0, Dr2 q1]; assumption⟩))))
  ·try simp at q1
   rw [Dr1 q1] at hat
   refine Qd (Zc 2 rfl (A4 rfl (fun q4 => ?_) (fun q4 => ?_)))
   ·try simp at q4
    have hl1 : l.length = 1 := by rcases hk with h | h | h | h <;> omega
    have hp1 : H3 l = D8 (l.getD 0 default) := by
     match l, hl1 with
     | [a], _ => simp [H3]
    have hI0 := hI.get 0 (by omega)
    have hlen0 := hI0.len
    obtain ⟨gA, off, rfl, hFg, hlt, hcell⟩ := hr.at_ (by omega)
    refine Qd (Fa M7 rfl (Lb o71 rfl ‹_› (by rfl) ?_))
    refine C7 rfl (B9 Ah3 rfl rfl (by omega) (by omega)) (C7 rfl (E4 (vs := css.getD 0 []) K4 rfl (E9 _) (fun j v hj => by rw [Dt1]; exact hcell (0 * 7 + j) v (hI.row 0 (by omega) j v hj)) hlen0) ?_)
    refine Z 3 rfl (Ca Ca7 rfl (hc 0 (by omega) (css.getD 0 []) F _ at_ all last (by omega) hall (fun z hz => by have := hF z hz; omega) hI0) ?_)
    rintro _ w5 ⟨hx5, p, rfl, hp, hBp⟩
    have hC := hC.s0 hx5
    exact Zc 1 rfl (A6 (B1 rfl rfl ⟨hC, _, rfl, by omega, by unfold Cb2; rw [Dr1 q0, Dr1 q1, Dr2 q4, hE 0 (by omega)]; exact hBp⟩))
   ·try simp at q4
    have hl2 : l.length = 2 := by rcases hk with h | h | h | h <;> omega
    have hp2 : H3 l = D8 (l.getD 0 default) + D8 (l.getD 1 default) := by
     match l, hl2 with
     | [a, b], _ => simp [H3]
    have hI0 := hI.get 0 (by omega)
    have hlen0 := hI0.len
    have hI1 := hI.get 1 (by omega)
    have hlen1 := hI1.len
    have hok0 := hOk 0 (by omega) at_ all last
    have hok1 := hOk 1 (by omega) (at_ + D8 (l.getD 0 default)) all last
    have hv0 := R9 (l.getD 0 default)
    have hv1 := R9 (l.getD 1 default)
    obtain ⟨gA, off, rfl, hFg, hlt, hcell⟩ := hr.at_ (by omega)
    refine A7 (Qd (Fa M7 rfl (Lb o71 rfl ‹_› (by rfl) ?_)))
    refine C7 rfl (B9 Ah3 rfl rfl (by omega) (by omega)) (C7 rfl (E4 (vs := css.getD 0 []) K4 rfl (E9 _) (fun j v hj => by rw [Dt1]; exact hcell (0 * 7 + j) v (hI.row 0 (by omega) j v hj)) hlen0) ?_)
    refine Z 3 rfl (Ca Ca7 rfl (hc 0 (by omega) (css.getD 0 []) F _ at_ all last (by omega) hall (fun z hz => by have := hF z hz; omega) hI0) ?_)
    rintro _ w6 ⟨hx6, p, rfl, hp, hBp⟩
    try have hlBp := hBp.lt
    refine Zc 1 rfl (Qa (C6 (S := []) 13 [(0, 0), (0, 1), (0, 2), (0, 3), (0, 4), (0, 5), (0, 6), (0, 7), (0, 8), (0, 11), (0, 12), (1, 9), (0, 10), (2, 13), (2, 14)] mo (by kernel_rfl) ?_))
    intro w7 hx7 hh7
    have hr := hr.u (hx6.s0 hx7)
    have hI := hI.u (hx6.s0 hx7)
    have hB1 := hB1.u (hx6.s0 hx7)
    have hI0 := hI0.u (hx6.s0 hx7)
    have hCS7 := A8 ([]) w7
    obtain ⟨_, _, hAE, _, hlt2, hcell2⟩ := hr.at_ (by omega)
    cases hAE
    refine Fa M7 rfl (D5 rfl (B2 o71 rfl ‹_› (by simp; done) (by rfl)) ?_)
    refine D5 rfl (B9 Ah3 rfl rfl (by omega) (by omega)) (D5 rfl (J0 (vs := css.getD 1 []) K4 rfl ⟨hlt2, fun j v hj => by rw [Dt1]; exact hcell2 (1 * 7 + j) v (hI.row 1 (by omega) j v hj)⟩ (by simp; done) hlen1) ?_)
    refine Z 1 rfl (Fa M7 rfl (D5 rfl (B2 o71 rfl ‹_› (by simp; done) (by rfl)) ?_))
    refine D5 rfl (B9 Ah3 rfl rfl (by omega) (by omega)) (D5 rfl (J0 (vs := css.getD 0 []) K4 rfl ⟨hlt2, fun j v hj => by rw [Dt1]; exact hcell2 (0 * 7 + j) v (hI.row 0 (by omega) j v hj)⟩ (by simp; done) hlen0) ?_)
    refine Z 2 rfl (C4 rfl (C0 fb58 rfl) (Ac4 l hb 0 (by omega) (css.getD 0 []) F _ (fun z hz => by have := hF z hz; omega) hI0) ?_)
    rintro _ w8 ⟨rfl, hx8⟩
    have hz8 := hx8.size
    have hI1 := hI1.u ((hx6.s0 hx7).s0 hx8)
    have hCS7 := hCS7.s0 hx8
    refine ⟨hCS7, ?_⟩
    refine Ad rfl rfl (by omega) (Ca Ca7 rfl (hc 1 (by omega) (css.getD 1 []) F _ (at_ + D8 (l.getD 0 default)) all last (by omega) hall (fun z hz => by have := hF z hz; omega) hI1) ?_)
    rintro _ w9 ⟨hx9, p2, rfl, hp2', hBp2⟩
    have hC := hC.s0 (((hx6.s0 hx7).s0 hx8).s0 hx9)
    have hr := hr.u (hx8.s0 hx9)
    have hI := hI.u (hx8.s0 hx9)
    have hB1 := hB1.u (hx8.s0 hx9)
    have hI0 := hI0.u (hx8.s0 hx9)
    have hI1 := hI1.u hx9
    have hBp := hBp.u ((hx7.s0 hx8).s0 hx9)
    try have hlBp2 := hBp2.lt
    refine Zc 1 rfl (Qa (Qd (Fa Aq7 rfl (Lb o3 rfl ‹_› (by rfl) ?_))))
    refine Zc 1 rfl (A4 rfl (fun q3 => ?_) (fun q3 => ?_))
    ·try simp at q3
     refine Qd (Z 2 rfl (Ca fb136 rfl (Bp5 _ _ 1 all p p2 _ hok0.1 hok1.1 (by omega) hok0.2 hok1.2 (by omega) hBp hBp2) ?_))
     rintro _ w10 ⟨hx10, p3, rfl, hp3, hBp3⟩
     have hC := hC.s0 hx10
     exact Zc 1 rfl (A6 (B1 rfl rfl ⟨hC, _, rfl, by omega, by unfold Cb2; rw [Dr1 q0, Dr1 q1, Dr1 q4, Dr2 q3, hE 0 (by omega), hE 1 (by omega)]; exact hBp3⟩))
    ·try simp at q3
     refine A7 (Qa (Qd (Zc 1 rfl (A4 rfl (fun q5 => ?_) (fun q5 => ?_)))))
     ·try simp at q5
      subst q5
      obtain ⟨_, _, hAE, _, hlt3, hcell3⟩ := hr.at_ (by omega)
      cases hAE
      refine Qd (Z 2 rfl (Fa M7 rfl (Lb o71 rfl ‹_› (by rfl) ?_)))
      refine C7 rfl (B9 Ah3 rfl rfl (by omega) (by omega)) (C7 rfl (E4 (vs := css.getD 1 []) K4 rfl (E9 _) (fun j v hj => by rw [Dt1]; exact hcell3 (1 * 7 + j) v (hI.row 1 (by omega) j v hj)) hlen1) ?_)
      refine Ca fb69 rfl (Ao4 l hg 1 (by omega) (css.getD 1 []) F _ (fun z hz => by have := hF z hz; omega) hI1) ?_
      rintro _ w11 ⟨rfl, hx11⟩
      have hz11 := hx11.size
      have hBp := hBp.u hx11
      have hBp2 := hBp2.u hx11
      refine Ca fb136 rfl (Bp5 _ _ (Ag4 (l.getD 1 default)) all p2 p _ hok1.1 hok0.1 (by omega) hok1.2 hok0.2 hv1.2 hBp2 hBp) ?_
      rintro _ w12 ⟨hx12, p3, rfl, hp3, hBp3⟩
      have hC := hC.s0 (hx11.s0 hx12)
      exact Zc 1 rfl (A6 (B1 rfl rfl ⟨hC, _, rfl, by omega, by unfold Cb2; rw [Dr1 q0, Dr1 q1, Dr1 q4, Dr1 q3, Dr2 rfl, hE 0 (by omega), hE 1 (by omega)]; exact hBp3⟩))
     ·try simp at q5
      obtain ⟨_, _, hAE, _, hlt3, hcell3⟩ := hr.at_ (by omega)
      cases hAE
      refine A7 (Qd (Z 2 rfl (Fa M7 rfl (Lb o71 rfl ‹_› (by rfl) ?_))))
      refine C7 rfl (B9 Ah3 rfl rfl (by omega) (by omega)) (C7 rfl (E4 (vs := css.getD 0 []) K4 rfl (E9 _) (fun j v hj => by rw [Dt1]; exact hcell3 (0 * 7 + j) v (hI.row 0 (by omega) j v hj)) hlen0) ?_)
      refine Ca fb69 rfl (Ao4 l hg 0 (by omega) (css.getD 0 []) F _ (fun z hz => by have := hF z hz; omega) hI0) ?_
      rintro _ w13 ⟨rfl, hx13⟩
      have hz13 := hx13.size
      have hBp := hBp.u hx13
      have hBp2 := hBp2.u hx13
      refine Ca fb136 rfl (Bp5 _ _ (Ag4 (l.getD 0 default)) all p p2 _ hok0.1 hok1.1 (by omega) hok0.2 hok1.2 hv0.2 hBp hBp2) ?_
      rintro _ w14 ⟨hx14, p3, rfl, hp3, hBp3⟩
      have hC := hC.s0 (hx13.s0 hx14)
      exact Zc 1 rfl (A6 (B1 rfl rfl ⟨hC, _, rfl, by omega, by unfold Cb2; rw [Dr1 q0, Dr1 q1, Dr1 q4, Dr1 q3, Dr1 (by rw [q5]; simp), hE 0 (by omega), hE 1 (by omega)]; exact hBp3⟩))
mutual
theorem Ck0 : ∀ t : R8, G8 t → n8s t ≤ 100000 → Ct9 t
 | .node k s lz l, h, hn => by
  rw [G8] at h
  rw [n8s] at hn
  exact Dm5 k s lz l h.1 h.2 (by omega) (Ar0 l h.2 (by omega))
theorem Ar0 : ∀ l : List R8, G8s l → n8l l ≤ 100000 → ∀ i, i < l.length → Ct9 (l.getD i default)
 | [], _, _, i, hi => absurd hi (by simp)
 | t :: r, h, hn, 0, _ => by rw [G8s] at h; rw [n8l] at hn; exact Ck0 t h.1 (by omega)
 | t :: r, h, hn, i + 1, hi => by rw [G8s] at h; rw [n8l] at hn; rw [Ds7]; exact Ar0 r h.2 (by omega) i (by simpa using hi)
end
end Go.Clt
