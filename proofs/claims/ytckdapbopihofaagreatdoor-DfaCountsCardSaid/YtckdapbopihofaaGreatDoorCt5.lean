import Derived.Test.YtckdapbopihofaaGreatDoorRows
import Derived.Test.YtckdapbopihofaaGreatDoorCards
import Derived.Test.YtckdapbopihofaaGreatDoorTie
import Derived.ProofKit
import Derived.OpenShut
import Derived.LaidSub
import Derived.Deep.DeepHandedRow
import Derived.Lib.LaidTab
import Derived.Test.YtckdapbopihofaaGreatDoorCt4
/- How many words of a length a pattern means: as many as there are ways, byte by byte (DfaCounts). Conditions: none beyond the statement's own. -/
set_option linter.unusedVariables false
set_option linter.unusedSimpArgs false
set_option maxRecDepth 8000
set_option maxHeartbeats 4000000
namespace Go.Clt
open Go Go.RowKit Go.Proofs
def iter {α : Type} (f : α → α) : Nat → α → α
 | 0, x => x
 | n + 1, x => f (iter f n x)
def Av5 (n : Nat) : List Int := (List.replicate n 0).set 0 1
def Ab6 (E : DE) (l : List St) (n : Nat) : List Int := iter (Ck3 E l) n (Av5 l.length)
def Cc3 (l : List St) (v : List Int) (s : Int) (k : Nat) : Int := if (l.getD k default).meant then As7 [s, v.getD k 0] else s
def Cs4 (E : DE) (l : List St) (n : Nat) : Int := (List.range l.length).foldl (Cc3 l (Ab6 E l n)) 0
theorem Dd2 (n : Nat) : (Av5 n).length = n ∧ rangeOk (Av5 n) := ⟨by simp [Av5], (Ao2 n).set 0 1 (by omega)⟩
theorem Ck1 (E : DE) (l : List St) : ∀ n, (Ab6 E l n).length = l.length ∧ rangeOk (Ab6 E l n)
 | 0 => Dd2 _
 | n + 1 => by
  have h := Ck1 E l n
  have := cstep_ok E l (Ab6 E l n)
  exact ⟨by rw [← h.1]; exact this.1, this.2⟩
theorem Cl2 (l : List St) (v : List Int) (s : Int) (k : Nat) (hs : 0 ≤ s ∧ s ≤ 9223372036854775807) : 0 ≤ Cc3 l v s k ∧ Cc3 l v s k ≤ 9223372036854775807 := by
 unfold Cc3; split
 ·exact S4 _
 ·exact hs
theorem Bu0 (F : Nat → Prop) (p : Nat) (E : DE) (l : List St) (n : Nat) (hn : n ≤ 1000) (w : World) (hFw : ∀ x, F x → x < w.heap.size) (hD : IsDfa F w p E l) :
  Calls P 14 #[.pointer (some ⟨p, 0, none⟩), .int .i64 (n : Nat)] w (Ret fun u w' => u = .int .i64 (Cs4 E l n) ∧ Chg [] w w') := by
 have hC := A8 [] w
 have hg := hD.good
 have hle := hg.le
 have hps := hg.pos
 refine D3 Tryz.func14 rfl rfl (Qd (Zc 1 rfl (Qa (Qd (Z 3 rfl (B7 (d := 11) rfl (fun h1 => ?_) (fun h1 => ?_)))))))
 ·try simp at h1
  all_goals omega
 ·try simp at h1
  refine Qu rfl (Z 1 rfl (Qu rfl (Z 3 rfl (B7 (d := 15) rfl (fun h2 => ?_) (fun h2 => ?_)))))
  ·try simp at h2
   all_goals omega
  ·try simp at h2
   refine Qu rfl (Z 1 rfl (Qu rfl (Ca fb15 rfl (Z0 F p E l _ hD) ?_)))
   rintro _ w1 ⟨rfl, hx1⟩
   have hz1 := hx1.size
   have hC := hC.s0 hx1
   have hD := hD.u hx1
   refine Qu rfl (Zc 2 rfl (A4 rfl (fun h3 => ?_) (fun h3 => ?_)))
   ·rw [cmpB_eql] at h3
    omega
   ·obtain ⟨pa, pb, Ab, cb, Al, cl, bm, ms, h⟩ := id hD
    have hB0 := h.blk
    refine A7 (Qd (Z 2 rfl (Fa U4 rfl (Lb o84 rfl ‹_› (by rfl) ?_))))
    refine Ln Tryz.underlying84 rfl (B4 rfl (L8 Cr7 zr3 rfl (cs := H6 (List.replicate l.length 0)) (by omega) (by omega) (by show (madeCells #[_] (((l.length : Nat) : Int).toNat * 1)).toList = _; rw [Ds1, Dv1, P9]; simp [H6])) ?_)
    intro b2 w2 hb2 hs2 hx2 hB2
    have hD := hD.u hx2
    refine Zc 1 rfl (Qd ?_)
    have hb2w : w.heap.size ≤ b2 := by omega
    have hFn : ∀ x ∈ [b2], ¬ F x := fun x hx h => by have := hFw x h; have := Dr4.1 hx; omega
    refine Z 1 rfl (C7 rfl (B3 T3 rfl rfl (by omega) (by omega)) (Pb (cs' := (H6 (Av5 l.length))) sz3 rfl rfl hB2 rfl rfl rfl (by simp [H6]; omega) (by unfold Av5; rw [show (0 : Nat) + (0 : Int).toNat = 0 from rfl, U8 _ _ _ (by simp [H6]; omega)]; simp [H6, Dx7]) ?_))
    intro w3 hs3 hx3 hB2
    have hC := hC.step (hx2.j hx3) (by simp <;> omega)
    have hD := hD.q hx3 ‹_›
    refine Qc (Qa (Qd (Zc 2 rfl (B0 (D7 (σ := Nat × Nat) (fun (i, bv) => [(0, .pointer (some ⟨p, 0, none⟩)), (5, .slice (some ⟨bv, 0, none⟩) l.length l.length), (28, .int .i64 n), (29, .int .i64 i)]) (fun (i, bv) wr => Chg [] w wr ∧ IsDfa F wr p E l ∧ Blk wr bv (H6 (Ab6 E l i)) 3 ∧ i ≤ n) (fun (i, bv) wr => n - i) (0, b2) (sb rfl) ?_ ?_)))))
    ·exact ⟨hC, hD, hB2, Ds0 _⟩
    rintro ⟨i, bv⟩ w9 ⟨hC, hD, hBv, hi⟩
    have hok := Ck1 E l i
    try have hzw := hC.size
    refine Qd (Zc 1 rfl (Qa (A4 rfl (fun h4 => ?_) (fun h4 => ?_))))
    ·try simp at h4
     refine A7 (Qa (B0 (Qb (Z 2 rfl (Ca fb45 rfl (dstep_c F p E l (Ab6 E l i) bv _ hok.1 hok.2 (fun x hx => by have := hFw x hx; omega) hD hBv) ?_)))))
     rintro v9 w4 ⟨hx4, b, rfl, hb, hBn⟩
     have hC := hC.s0 hx4
     have hD := hD.u hx4
     refine Zc 1 rfl (Qb (Ad rfl rfl (by omega) (Zc 1 rfl ⟨(i + 1, b), sb rfl, ?_, ?_⟩)))
     exact ⟨hC, hD, hBn, by omega⟩
     show n - (i + 1) < n - i
     omega
    ·try simp at h4
     have hin : i = n := by omega
     subst hin
     obtain ⟨pa, pb, Ab, cb, Al, cl, bm, ms, h⟩ := id hD
     refine Xb (Qd (Zc 1 rfl (Qa (Qd (Z 1 rfl (Ln Tryz.underlying24 rfl (Zc 1 rfl (B0 (D7 (σ := Nat × Int) (fun (k, s) => [(0, .pointer (some ⟨p, 0, none⟩)), (6, .int .i64 s), (35, .slice (some ⟨bv, 0, none⟩) l.length l.length), (36, .int .i64 (l.length : Nat)), (37, .int .i64 k)]) (fun (k, s) wr => Chg [] w wr ∧ IsDfa F wr p E l ∧ Blk wr bv (H6 (Ab6 E l i)) 3 ∧ s = (List.range k).foldl (Cc3 l (Ab6 E l i)) 0 ∧ (0 ≤ s ∧ s ≤ 9223372036854775807) ∧ k ≤ l.length) (fun (k, s) wr => l.length - k) (0, 0) (sb rfl) ?_ ?_)))))))))
     ·exact ⟨hC, hD, hBv, rfl, by omega, Ds0 _⟩
     rintro ⟨k, s⟩ w8 ⟨hC, hD, hBv, hs, hsr, hk⟩
     refine Qd (Zc 1 rfl (Qa (A4 rfl (fun h5 => ?_) (fun h5 => ?_))))
     ·try simp at h5
      have hkn : k < l.length := by omega
      have hrv := hBv.rd (F := fun _ => True) (sz := 1) (m := l.length) (by rw [F7, Dv1]; exact hok.1) trivial
      have hcv := (hrv.one (K2 (Ab6 E l i) k (by omega))).2
      obtain ⟨pa, pb, Ab, cb, Al, cl, bm, ms, h⟩ := id hD
      have hB0 := h.blk
      have hBn := (h.sts.ok k hkn).blk
      have hml := h.sts.len
      have hAl : ∃ g off, Al = some ⟨g, off, none⟩ := by obtain ⟨g, off, h, _⟩ := h.rl.at_ (by omega); exact ⟨g, off, h⟩
      obtain ⟨g, off, rfl⟩ := hAl
      have hcell := (h.rl.one (P0 ms k (by omega))).2
      have hvk := hok.2.get k
      refine A7 (Qa (B0 (Qd (Z 1 rfl (C7 rfl (B3 T3 rfl rfl (by omega) (by omega)) (Lc o3 rfl hcv (Zc 2 rfl (Qd (Z 2 rfl (Fa U4 rfl (Lb o84 rfl ‹_› (by rfl) ?_)))))))))))
      refine Z 1 rfl (C7 rfl (B3 Db7 rfl rfl (by omega) (by omega)) (Lc o92 rfl hcell (Z 1 rfl (Fa Dk6 rfl (Lb o4 rfl ‹_› (by rfl) ?_)))))
      refine Qc (A4 rfl (fun h6 => ?_) (fun h6 => ?_))
      ·refine Qb (Z 2 rfl (B4 rfl (B5 T3 Tryz.underlying24 zr3 rfl rfl rfl (by rfl)) ?_))
       intro b5 w5 hb5 hs5 hx5 hB5
       have hz5 := hx5.size
       have hC := hC.s0 hx5
       have hD := hD.u hx5
       have hBv := hBv.u hx5
       have hB0 := hB0.u hx5
       have hBn := hBn.u hx5
       refine Ca fb46 rfl (Am1 [s, (Ab6 E l i).getD k 0] _ _ _ _ _ ‹_› rfl (by intro x hx; simp only [Dv7, List.not_mem_nil, or_false] at hx; rcases hx with rfl | rfl; exact hsr.2; exact hvk.2) (by simp)) ?_
       rintro _ _ ⟨rfl, rfl⟩
       have hca : Cc3 l (Ab6 E l i) s k = As7 [s, (Ab6 E l i).getD k 0] := by unfold Cc3; rw [Dr2 h6]
       refine Zc 1 rfl (Qb (Ad rfl rfl (by omega) (Zc 1 rfl ⟨(k + 1, Cc3 l (Ab6 E l i) s k), ⟨rfl, (F9 rfl (by rw [hca])), rfl, rfl, rfl, trivial⟩, ?_, ?_⟩)))
       refine ⟨hC, hD, hBv, ?_, Cl2 _ _ _ _ hsr, hkn⟩
       rw [Dt4, Dt0, ← hs]; rfl
       show l.length - (k + 1) < l.length - k
       omega
      ·have hca : Cc3 l (Ab6 E l i) s k = s := by unfold Cc3; rw [Dr1 (by rw [h6]; simp)]
       refine A7 (Qb (Ad rfl rfl (by omega) (Zc 1 rfl ⟨(k + 1, Cc3 l (Ab6 E l i) s k), ⟨rfl, (F9 rfl (by rw [hca])), rfl, rfl, rfl, trivial⟩, ?_, ?_⟩)))
       refine ⟨hC, hD, hBv, ?_, Cl2 _ _ _ _ hsr, hkn⟩
       rw [Dt4, Dt0, ← hs]; rfl
       show l.length - (k + 1) < l.length - k
       omega
     ·try simp at h5
      have hkk : k = l.length := by omega
      subst hkk
      exact Xb (Qd (Zc 2 rfl (A6 (B1 rfl rfl ⟨I9 hs, hC⟩))))
end Go.Clt
section
namespace Go.Clt
open Go
mutual
def synB : Syn → Bool
 | .node _ s _ _ _ l _ _ => decide (s < 2 ^ 256) && decide (l.length ≤ 2000000) && synsB l
def synsB : List Syn → Bool
 | [] => true
 | t :: r => synB t && synsB r
end
mutual
theorem Ct4 : ∀ (t : Syn), synB t = true → SynOk t
 | .node k s mn mx lz l a b, h => by
  rw [synB, Dr8, Dr8] at h
  rw [SynOk]
  exact ⟨(Dw9 h.1.1 : s < 2 ^ 256), Dw9 h.1.2, Cd3 l h.2⟩
theorem Cd3 : ∀ (l : List Syn), synsB l = true → SynsOk l
 | [], _ => trivial
 | t :: r, h => by
  rw [synsB, Dr8] at h
  exact ⟨Ct4 t h.1, Cd3 r h.2⟩
end
def strA : ByteArray := ⟨#[97, 124, 97, 98]⟩
def sA : List Nat := C2 strA
def cA : Cor := (Q6 sA 0).1
def kA : Kn := (V8 cA).1
def qA : Wst := (V8 cA).2
def lA : List St := (dfaP kA qA 10).getD []
def EA : DE := Cz0 kA qA 10
theorem okA : SynOk (N0 sA).1 ∧ O6 (N0 sA).1 ≤ 100000000 := ⟨Ct4 _ (by decide +kernel), by decide +kernel⟩
theorem noA : (Q6 sA 0).2.2 = 0 := by decide +kernel
theorem lenA : (L0 cA).length = 3 := by decide +kernel
theorem lenqA : qA.S.length = 3 := by decide +kernel
theorem dfaA : dfaP kA qA 10 = some lA := by
 have h : (dfaP kA qA 10).isSome = true := by decide +kernel
 unfold lA
 cases hd : dfaP kA qA 10 with
 | none => rw [hd] at h; cases h
 | some l => rfl
theorem lenlA : lA.length = 4 := by decide +kernel
def wAB : ByteArray := ⟨#[97, 98]⟩
def wB : ByteArray := ⟨#[98]⟩
theorem abA : (lA.getD (dRun EA lA (C2 wAB)) default).meant = true := by decide +kernel
theorem bA : (lA.getD (dRun EA lA (C2 wB)) default).meant = false := by decide +kernel
theorem c1A : Cs4 EA lA 1 = 1 := by decide +kernel
theorem c2A : Cs4 EA lA 2 = 1 := by decide +kernel
end Go.Clt
end
namespace Go.Clt
open Go Go.RowKit Go.Proofs
theorem Cm1 (s : ByteArray) (mode : Int) (w : World) (hL : Laid w) (hok : (N0 (C2 s)).2.2 = 0 → SynOk (N0 (C2 s)).1 ∧ O6 (N0 (C2 s)).1 ≤ 100000000) (hsz : (Q6 (C2 s) mode).2.2 = 0 → (L0 (Q6 (C2 s) mode).1).length ≤ 600) :
  Calls P 39 #[.string s, .int .i64 mode] w (Ret fun u w' => Chg [] w w' ∧ ((Q6 (C2 s) mode).2.2 ≠ 0 → u = .tuple #[.pointer none, .int .i64 (Q6 (C2 s) mode).2.1, .int .i64 (Q6 (C2 s) mode).2.2]) ∧ ((Q6 (C2 s) mode).2.2 = 0 → ∃ p, u = .tuple #[.pointer (some ⟨p, 0, none⟩), .int .i64 0, .int .i64 0] ∧ IsAut (FR w.heap.size w'.heap.size []) w' p (V8 (Q6 (C2 s) mode).1).1 (V8 (Q6 (C2 s) mode).1).2)) := by
 have hC := A8 [] w
 refine D3 Tryz.func39 rfl rfl (Qd (Zc 3 rfl (Qd (Z 2 rfl (Ca fb61 rfl (Bf2 s mode _ hL hok) ?_)))))
 rintro _ w1 ⟨hx1, ad, rfl, hT, hN⟩
 have hz1 := hx1.size
 have hC := hC.s0 hx1
 refine Zc 7 rfl (Qa (Qd (Zc 2 rfl (A4 rfl (fun h1 => ?_) (fun h1 => ?_)))))
 ·try simp at h1
  refine Qd (Zc 5 rfl (A6 (M0 rfl rfl rfl rfl ?_)))
  obtain rfl := hN h1
  exact ⟨hC, fun _ => rfl, fun h => absurd h h1⟩
 ·try simp at h1
  have h1' : (Q6 (C2 s) mode).2.2 = 0 := by simpa using h1
  have hT := hT h1'
  refine A7 (Qd (Z 1 rfl (Ca fb37 rfl (anew_c _ _ (FR w.heap.size w1.heap.size []) _ hT (fun x h => h.2.1) (by have := hsz h1'; omega)) ?_)))
  rintro v9 w2 ⟨hx2, hbig, hsm⟩
  have hC := hC.s0 hx2
  obtain ⟨p, rfl, hA⟩ := hsm (hsz h1')
  exact Zc 5 rfl (Qd (Zc 5 rfl (A6 (M0 rfl rfl rfl rfl ⟨hC, fun h => absurd h1' h, fun _ => ⟨p, rfl, hA.mono (fun x h _ => ⟨by have := h.1; omega, h.2.1, h.2.2⟩)⟩⟩))))
theorem Df4 {p : Go.Program} {f : FuncId} {args : Array Value} {w : World} {T U : Value → World → Prop} (h : Calls p f args w (Ret T)) (hu : ∀ u w', T u w' → U u w') : Calls p f args w (Ret U) :=
 Calls.mono h fun e w'' he => by
  cases e with
  | returned v => exact hu _ _ he
  | panicked c => exact he.elim
  | outgrown => exact he.elim
theorem autoA (w : World) (hL : Laid w) : Calls P 39 #[.string strA, .int .i64 0] w (Ret fun u w' => Chg [] w w' ∧ ∃ p, u = .tuple #[.pointer (some ⟨p, 0, none⟩), .int .i64 0, .int .i64 0] ∧ IsAut (FR w.heap.size w'.heap.size []) w' p kA qA) :=
 Df4 (Cm1 strA 0 w hL (fun _ => okA) (fun _ => by have := lenA; unfold cA sA at this; omega)) fun _ _ ⟨hC, _, h⟩ => ⟨hC, h noA⟩
theorem dfaA_c (p : Nat) (F : Nat → Prop) (w : World) (hW : IsAut F w p kA qA) (hF : ∀ x, F x → x < w.heap.size) (hL : Laid w) : Calls P 13 #[.pointer (some ⟨p, 0, none⟩), .int .i64 10] w (Ret fun u w' => Chg [] w w' ∧ ∃ p, u = .tuple #[.pointer (some ⟨p, 0, none⟩), .int .i64 0] ∧ IsDfa (fun x => x < w'.heap.size) w' p EA lA) :=
 Df4 (dnew_c F p kA qA 10 w hW hF hL (by rw [lenqA]; omega) (by omega)) fun _ _ ⟨hC, _, h⟩ => ⟨hC, by obtain ⟨p, h1, h2⟩ := h _ dfaA; exact ⟨p, h1, h2.mono fun _ _ h => h⟩⟩
theorem Cm0 (w : World) (hL : Laid w) : Calls P 12 #[] w (Ret fun u w' => u = .bool true ∧ Chg [] w w') := by
 have hC := A8 [] w
 refine D3 Tryz.func12 rfl rfl (Qd (Zc 1 rfl (Qd (Ca fb39 rfl (autoA _ hL) ?_))))
 rintro _ w1 ⟨hx1, pa, rfl, hA⟩
 have hL := hL.u hx1
 refine Zc 7 rfl (Qd (Z 1 rfl (Ca fb13 rfl (dfaA_c pa _ _ hA (fun x h => h.2.1) hL) ?_)))
 rintro v9 w2 ⟨hx2, pd, rfl, hD'⟩
 have hC := hC.s0 (hx1.s0 hx2)
 have hD := hD'; clear hD'
 have hlA := lenlA
 refine Zc 5 rfl (Qd (Z 3 rfl (B7 (d := 18) rfl (fun h0 => ?_) (fun h0 => ?_))))
 ·try simp at h0
  refine Qu rfl (Z 1 rfl (Qu rfl (Ca fb15 rfl (Z0 _ pd EA lA _ hD) ?_)))
  rintro _ w3 ⟨rfl, hx3⟩
  have hz3 := hx3.size
  have hC := hC.s0 hx3
  have hD := hD.u hx3
  refine Qu rfl (Z 3 rfl (B7 (d := 23) rfl (fun h1 => ?_) (fun h1 => ?_)))
  ·try simp at h1
   refine Qu rfl (Z 1 rfl (Qu rfl (Ca fb23 rfl (Cr9 _ pd EA lA wAB (by decide) _ hD) ?_)))
   rintro _ w4 ⟨rfl, hx4⟩
   have hz4 := hx4.size
   have hC := hC.s0 hx4
   have hD := hD.u hx4
   refine Z 2 rfl (B7 (d := 27) rfl (fun h2 => ?_) (fun h2 => ?_))
   ·try simp at h2
    refine Qu rfl (Z 1 rfl (Qu rfl (Ca fb23 rfl (Cr9 _ pd EA lA wB (by decide) _ hD) ?_)))
    rintro _ w5 ⟨rfl, hx5⟩
    have hz5 := hx5.size
    have hC := hC.s0 hx5
    have hD := hD.u hx5
    refine Qu rfl (Z 3 rfl (B7 (d := 32) rfl (fun h3 => ?_) (fun h3 => ?_)))
    ·try simp at h3
     refine Qu rfl (Z 1 rfl (Qu rfl (Ca fb14 rfl (Bu0 _ pd EA lA 1 (by omega) _ (fun x (hx : x < w2.heap.size) => by omega) hD) ?_)))
     rintro _ w6 ⟨rfl, hx6⟩
     have hz6 := hx6.size
     have hC := hC.s0 hx6
     have hD := hD.u hx6
     refine Qu rfl (Z 3 rfl (B7 (d := 37) rfl (fun h4 => ?_) (fun h4 => ?_)))
     ·try simp at h4
      refine Qu rfl (Z 1 rfl (Qu rfl (Ca fb14 rfl (Bu0 _ pd EA lA 2 (by omega) _ (fun x (hx : x < w2.heap.size) => by omega) hD) ?_)))
      rintro _ w7 ⟨rfl, hx7⟩
      have hC := hC.s0 hx7
      exact Qu rfl (Zc 3 rfl (A6 (B1 rfl rfl ⟨by rw [c2A]; rfl, hC⟩)))
     ·try simp at h4
      rw [c1A] at h4; simp at h4
    ·try simp at h3
     have := bA; rw [Dr3, h3] at this; cases this
   ·try simp at h2
    have := abA; rw [Dr3, h2] at this; cases this
  ·try simp at h1
   all_goals omega
 ·try simp at h0
  all_goals omega
end Go.Clt
section
namespace Go.Clt
open Go Go.RowKit Go.Proofs Go.ChangeShapes Go.WideShapes
theorem own0 : ownKnob Tryz.prog.godebug = none := by kernel_rfl
theorem g32 : Tryz.prog.globalNamed "math/bits.deBruijn32tab" = some 3 := by kernel_rfl
theorem g64 : Tryz.prog.globalNamed "math/bits.deBruijn64tab" = some 0 := by kernel_rfl
theorem g10 : Tryz.prog.globalNamed "internal/strconv.uint64pow10" = some 1 := by kernel_rfl
theorem t32 : (Tryz.prog.globals[3]?).map (·.type) = some 313 := by kernel_rfl
theorem t64 : (Tryz.prog.globals[0]?).map (·.type) = some 226 := by kernel_rfl
theorem t10 : (Tryz.prog.globals[1]?).map (·.type) = some 301 := by kernel_rfl
theorem u313 : Tryz.prog.underlying 313 = some (.array 32 5) := by kernel_rfl
theorem u226 : Tryz.prog.underlying 226 = some (.array 64 5) := by kernel_rfl
theorem u301 : Tryz.prog.underlying 301 = some (.array 20 68) := by kernel_rfl
theorem u5 : Tryz.prog.underlying 5 = some (.int .u8) := by kernel_rfl
theorem u68 : Tryz.prog.underlying 68 = some (.int .u64) := by kernel_rfl
theorem u3 : Tryz.prog.underlying 3 = some (.int .i64) := by kernel_rfl
theorem u4 : Tryz.prog.underlying 4 = some .bool := by kernel_rfl
theorem u9 : Tryz.prog.underlying 9 = some .string := by kernel_rfl
theorem c313 : Tryz.prog.cellsOf 313 = 32 := by kernel_rfl
theorem c226 : Tryz.prog.cellsOf 226 = 64 := by kernel_rfl
theorem c301 : Tryz.prog.cellsOf 301 = 20 := by kernel_rfl
theorem c5 : Tryz.prog.cellsOf 5 = 1 := by kernel_rfl
theorem c68 : Tryz.prog.cellsOf 68 = 1 := by kernel_rfl
def zs32 : List Int := [0, 1, 28, 2, 29, 14, 24, 3, 30, 22, 20, 15, 25, 17, 4, 8, 31, 27, 13, 23, 21, 19, 16, 7, 26, 12, 18, 6, 11, 5, 10, 9]
def zs64 : List Int := Lib.deBruijn64tab.map Int.ofNat
def zs10 : List Int := (List.range 20).map fun j => ((10 ^ j : Nat) : Int)
def laidL : List (String × DataW Unit) := [("math/bits.deBruijn32tab", Proofs.YtckdapbopihofaaGreatDoor.Rows.laid_math_bits_deBruijn32tab), ("math/bits.deBruijn64tab", Proofs.YtckdapbopihofaaGreatDoor.Rows.laid_math_bits_deBruijn64tab), ("internal/strconv.uint64pow10", Proofs.YtckdapbopihofaaGreatDoor.Rows.laid_internal_strconv_uint64pow10)]
theorem laidL_is : laidL = [("math/bits.deBruijn32tab", Lib.tabData .u8 zs32), ("math/bits.deBruijn64tab", Lib.tabData .u8 zs64), ("internal/strconv.uint64pow10", Lib.tabData .u64 zs10)] := by kernel_rfl
theorem laid_of {W : World} (h : laidMetH Tryz.prog laidL W) : Laid W := by
 rw [MakeChecks.laidMetH_plain _ _ _ (by kernel_rfl), laidL_is] at h
 have h32 : Lib.TabIs Tryz.prog W "math/bits.deBruijn32tab" .u8 zs32 := Lib.tabIs_of_head (rest := _) g32 t32 u313 u5 c5 c313 h
 have h64 : Lib.TabIs Tryz.prog W "math/bits.deBruijn64tab" .u8 zs64 :=
  Lib.tabIs_of_head (rest := []) g64 t64 u226 u5 c5 c226 (h.filter fun x => x.1 == "math/bits.deBruijn64tab")
 have h10 : Lib.TabIs Tryz.prog W "internal/strconv.uint64pow10" .u64 zs10 :=
  Lib.tabIs_of_head (rest := []) g10 t10 u301 u68 c68 c301 (h.filter fun x => x.1 == "internal/strconv.uint64pow10")
 refine ⟨?_, fun j hj => ?_, fun j hj => ?_, ?_⟩
 ·have := h32.cell g32 0 (by decide)
  unfold World.cell? at this
  have hlt : 3 < W.heap.size := by
   rcases Dy5 3 W.heap.size with h | h
   ·exact h
   ·rw [show W.heap[(⟨3, 0, none⟩ : Addr).block]? = none from Array.getElem?_eq_none h] at this
    cases this
  omega
 ·have := h64.cell g64 j (by show j < 64; exact hj)
  rw [this]
  have hl : j < Lib.deBruijn64tab.length := hj
  simp [zs64, Dr3, hl]
 ·have := h10.cell g10 j (by show j < 20; exact hj)
  rw [this]
  simp [zs10, Dr3, hj]
 ·unfold Lib.TabIs World.var? at h10
  rw [g10] at h10
  change (match W.heap[1]? with | some (.cells cs _ _) => some cs | _ => none) = _ at h10
  cases hh : W.heap[1]? with
  | none => rw [hh] at h10; cases h10
  | some o =>
   rw [hh] at h10
   cases o with
   | cells cs a b =>
    simp only [Option.some.injEq] at h10
    rw [h10]
    exact ⟨a, b, rfl⟩
   | _ => cases h10
theorem kept_of {W W' : World} (h : Chg [] W W') (may : MemPlace → Prop) : W.keptBut W' may := by
 refine ⟨h.os, h.output, fun i hi => ?_⟩
 rw [h.same i hi (by simp)]
 cases W.heap[i]? with
 | none => rfl
 | some o =>
  cases o with
  | cells c t fr => exact ⟨rfl, rfl, rfl, fun _ _ => rfl⟩
  | map es clock => exact .inr ⟨rfl, rfl⟩
  | _ => rfl
theorem Cw1 {H : Type} {enc : TypeId × Value → H} {f : Func} {s : ChangeSpec} {apart fresh handsOn again : Bool} {W W' : World} {args : Array Value} {v : Value} {ds gs : List (DataW H)}
  (hW : DataW.Whole enc Tryz.prog f.params.toList s.vars apart W args.toList ds gs [])
  (hres : ∀ (b : Nat) (sp : Nat → Bool) (hd : Bool), DataW.TrodAll enc Tryz.prog W' b sp hd f.resultTypes.toList (v.resultList f.resultTypes.size) (s.fn H (ds ++ gs)).results [])
  (hargs : ∀ sp : Nat → Bool, DataW.TrodAll enc Tryz.prog W' 0 sp true f.params.toList args.toList (s.fn H (ds ++ gs)).args [])
  (hvars : ∀ sp : Nat → Bool, DataW.TrodVars enc Tryz.prog W' sp s.vars (s.fn H (ds ++ gs)).vars [])
  (hk : Chg [] W W')
  (hok : ∀ (j : Nat) (t : TypeId) (r : Value), f.resultTypes[j]? = some t → (v.resultList f.resultTypes.size)[j]? = some r → Value.okWide Tryz.prog W' .any 0 t r) :
  s.post enc Tryz.prog f apart fresh handsOn again W args v W' := by
 refine ⟨ds, gs, [], [], [], [], hW, hres _ _ _, hargs _, hvars _, kept_of hk _, fun _ => ?_⟩
 refine ⟨hok, _, _, ([] ++ []) ++ [], ⟨[] ++ [], [], trodAll_append (hargs _) (hres _ _ _), hvars _, rfl, ?_, ?_⟩, ?_⟩
 ·intro b off hp; cases hp
 ·intro ha; exact List.nodup_nil
 ·intro p hp _; cases hp
def De2 (l : List Value) : Obj → Obj
 | .cells _ t frozen => .cells l.toArray t frozen
 | o => o
noncomputable def laidWorld (os : Os) : World :=
 { World.holding Tryz.prog os ⟨#[], #[], []⟩ with heap := (((World.holding Tryz.prog os ⟨#[], #[], []⟩).heap.modify 0 (De2 (zs64.map fun z => Value.int .u8 z))).modify 1 (De2 (zs10.map fun z => Value.int .u64 z))).modify 3 (De2 (zs32.map fun z => Value.int .u8 z)) }
theorem laid_met (os : Os) (args : Array Value) : laidMet Tryz.prog laidL ((laidWorld os).forCall (fun _ _ => 0) ⟨#[], args, []⟩).memory :=
 laidMet_of_run' 8 (by kernel_rfl) (by kernel_rfl)
end Go.Clt
end
namespace Go.Clt
open Go Go.RowKit Go.Proofs
def U2 (l : List Bool) : List Value := l.map .bool
theorem L7 (l : List Bool) : (U2 l).length = l.length := by simp [U2]
theorem Bg1 (l : List Bool) (k : Nat) (h : k < l.length) : (U2 l)[k]? = some (.bool (l.getD k false)) := by simp [U2, Dr5 h, Dr3]
def onL (l : List Bool) (k : Nat) : List Nat := (List.range k).filter fun b => l.getD b false
def onS (l : List Bool) : Nat := F5 (onL l 256)
theorem onL_yes {l : List Bool} {k : Nat} (h : l.getD k false = true) : F5 (onL l (k + 1)) = F5 (onL l k) ||| 2 ^ k := by
 unfold onL F5
 rw [Dt4, Dx0, Dt0]
 simp only [Dx6, h, if_true, List.filter_nil]
 rfl
theorem onL_no {l : List Bool} {k : Nat} (h : l.getD k false = false) : onL l (k + 1) = onL l k := by
 unfold onL
 rw [Dt4, Dx0, List.filter_cons_of_neg (by rw [h]; exact Bool.false_ne_true)]
 simp
theorem Cf7 (F : Nat → Prop) (on : List Bool) (A : Option Addr) (c : Nat) (hn : on.length = 256) (w : World) (hF : ∀ x, F x → x < w.heap.size) (hr : Rd F w 1 A 256 (U2 on)) : Calls P 200 #[.slice A 256 c] w (Ret fun u w' => u = .agg (C1 (onS on)).toArray ∧ Chg [] w w') := by
 have hC := A8 [] w
 have hAl : ∃ g off, A = some ⟨g, off, none⟩ := by obtain ⟨g, off, h, _⟩ := hr.at_ (by omega); exact ⟨g, off, h⟩
 obtain ⟨g, off, rfl⟩ := hAl
 refine D3 Tryz.func200 rfl rfl (Qd (B4 rfl (B6 K5 rfl) ?_))
 intro b1 w1 hb1 hs1 hx1 hB1
 refine Qc (Qd (B4 rfl (B6 K5 rfl) ?_))
 intro b2 w2 hb2 hs2 hx2 hB2
 have hC := hC.s0 (hx1.s0 hx2)
 have hr := hr.u (hx1.s0 hx2)
 have hB1 := hB1.u hx2
 refine Qc (Qa (Qd (Zc 1 rfl (B0 (D7 (σ := Nat) (fun k => [(0, .slice (some ⟨g, off, none⟩) 256 c), (2, .pointer (some ⟨b1, 0, none⟩)), (3, .pointer (some ⟨b2, 0, none⟩)), (4, .int .i64 k)]) (fun k wr => Chg [] w wr ∧ Rd F wr 1 (some ⟨g, off, none⟩) 256 (U2 on) ∧ Blk wr b1 (C1 0) 70 ∧ Blk wr b2 (C1 (F5 (onL on k))) 70 ∧ k ≤ 256) (fun k wr => 256 - k) 0 (sb rfl) ?_ ?_)))))
 ·rw [← C3] at hB1 hB2
  exact ⟨hC, hr, hB1, hB2, by omega⟩
 rintro k w9 ⟨hC, hr, hB1, hB2, hk⟩
 refine Qa (Qd (Z 3 rfl (B7 (d := 7) rfl (fun h1 => ?_) (fun h1 => ?_))))
 ·try simp at h1
  have hk2 : k < 256 := by omega
  refine Qu rfl (Z 1 rfl (Qu rfl (Z 1 rfl (Qu rfl (Ln Tryz.underlying43 rfl (Qu rfl (Zc 2 rfl (A4 rfl (fun h2 => ?_) (fun h2 => ?_)))))))))
  ·try simp at h2
   have hcell := (hr.one (Bg1 on k (by omega))).2
   refine A7 (Qa (B0 (Qd (Z 2 rfl (C7 rfl (B3 sl43 rfl rfl (by omega) (by omega)) (Lc o4 rfl hcell (Qc (A4 rfl (fun h3 => ?_) (fun h3 => ?_)))))))))
   ·have hFn : ∀ x ∈ [b2], ¬ F x := fun x hx h => by have := hF x h; have := Dr4.1 hx; omega
    refine C6 (S := []) 10 [(0, 0), (0, 1), (0, 2), (0, 3), (0, 4), (0, 5), (0, 6), (0, 7), (0, 8), (0, 9), (2, 10), (2, 11)] mo (by kernel_rfl) ?_
    intro w3 hx3 hh3
    have hr := hr.u hx3
    have hB2 := hB2.u hx3
    refine Z 1 rfl (D5 rfl (Ad6 rfl rfl (by omega) (by omega) (by exact I2 (by omega))) ?_)
    refine Z 1 rfl (D5 rfl (Ad6 rfl rfl (by omega) (by omega) (by exact I2 (by omega))) ?_)
    refine D5 rfl (E2 An8 rfl rfl (by omega) (by omega)) (D5 rfl (E5 o68 rfl (Ar8 hB2 (by omega)) (by simp; done)) ?_)
    have hput : Value.int .u64 (As4 .or .u64 (wd (F5 (onL on k)) (k / 64)) (IntKind.u64.wrap (1 * 2 ^ (min (k % 64) 64)))) = .int .u64 (wd (F5 (onL on k) ||| 2 ^ k) (k / 64)) := I9 (Co5 _ k hk2)
    refine Z 1 rfl (D5 rfl (As2 rfl rfl (by omega) (by omega)) (D5 rfl (Cu0 rfl rfl (by omega)) (D5 rfl (O2 rfl rfl rfl) (C7 rfl (E2 An8 rfl rfl (by omega) (by omega)) (Pb (cs' := C1 (F5 (onL on k) ||| 2 ^ k)) sz68 rfl rfl hB2 rfl rfl rfl (by rw [Dw7]; show 0 + k / 64 + 1 ≤ 4; omega) (by rw [← Bx2 _ k hk2, Dt2]; exact congrArg (fun x => (C1 (F5 (onL on k))).take (k / 64) ++ [x] ++ (C1 (F5 (onL on k))).drop (k / 64 + 1)) hput) ?_)))))
    intro w4 hs4 hx4 hB2
    have hC := hC.step (hx3.j hx4) (by simp <;> omega)
    have hr := hr.q hx4 ‹_›
    have hB1 := hB1.q (hx3.j hx4) (by simp <;> omega)
    refine Qc (Qb (Z 1 rfl (Ad rfl rfl (by omega) (Zc 1 rfl ⟨k + 1, sb rfl, ?_, ?_⟩))))
    exact ⟨hC, hr, hB1, by rw [onL_yes h3]; exact hB2, by omega⟩
    omega
   ·refine A7 (Qb (Z 1 rfl (Ad rfl rfl (by omega) (Zc 1 rfl ⟨k + 1, sb rfl, ?_, ?_⟩))))
    exact ⟨hC, hr, hB1, by rw [onL_no h3]; exact hB2, by omega⟩
    omega
  ·try simp at h2
   all_goals omega
 ·try simp at h1
  have hkk : k = 256 := by omega
  subst hkk
  refine Qk rfl (Qk rfl (Qk rfl (Qk rfl (Zc 1 rfl (E3 rfl (Xb (Qd (La I5 rfl ‹_› rfl rfl ?_))))))))
  refine Pe J1 rfl ‹_› rfl rfl ?_
  intro w5 hs5 hx5 hB1
  have hC := hC.step hx5 (by simp; omega)
  refine Qc (A6 (C8 rfl rfl (A5 I5 ‹_› rfl rfl) ?_))
  exact ⟨rfl, hC⟩
theorem rin_c (s : ByteArray) (hs : s.size ≤ 1000) (c : Nat) (hc : c < 256) (w : World) : Calls P 171 #[.string s, .int .u8 (c : Nat)] w (Ret fun u w' => u = .bool (decide (c ∈ C2 s)) ∧ Chg [] w w') := by
 have hC := A8 [] w
 have hsl := E7 s
 refine D3 Tryz.func171 rfl rfl (Qd (Zc 1 rfl (Qa (Qd (Zc 1 rfl (B0 (D7 (σ := Nat) (fun i => [(0, .string s), (1, .int .u8 (c : Nat)), (5, .int .i64 i)]) (fun i wr => Chg [] w wr ∧ (∀ j, j < i → (C2 s).getD j 0 ≠ c) ∧ i ≤ s.size) (fun i wr => s.size - i) 0 (sb rfl) ?_ ?_)))))))
 ·exact ⟨hC, fun j h => by omega, Ds0 _⟩
 rintro i w9 ⟨hC, hno, hi⟩
 refine Qa (Qd (Z 2 rfl (C7 rfl (F4 Tryz.underlying9 rfl) (Zc 1 rfl (A4 rfl (fun h1 => ?_) (fun h1 => ?_))))))
 ·try simp at h1
  have hin : i < s.size := by omega
  obtain ⟨u8, hu, hu2⟩ := I4 s i hin
  refine A7 (Qa (B0 (Qd (Z 2 rfl (C7 rfl (Does.to (E8 Tryz.underlying9 rfl rfl (by omega) (by exact hu)) (I9 (show ((u8.toNat : Nat) : Int) = (((C2 s).getD i 0 : Nat) : Int) by rw [hu2]))) ?_)))))
  refine Zc 2 rfl (A4 rfl (fun h2 => ?_) (fun h2 => ?_))
  ·rw [cmpB_eql] at h2
   exact Qd (Zc 1 rfl (A6 (B1 rfl rfl ⟨H9 (by symm; rw [Ds5]; have : c = (C2 s).getD i 0 := (by omega); rw [this]; exact H4 _ 0 i (by omega)), hC⟩)))
  ·rw [cmpB_eqlF] at h2
   refine A7 (Qb (Z 1 rfl (Ad rfl rfl (by omega) (Zc 1 rfl ⟨i + 1, sb rfl, ?_, ?_⟩))))
   exact ⟨hC, fun j hj => by rcases Dy5 j i with h | h; exact hno j h; have : j = i := (by omega); subst this; omega, hin⟩
   omega
 ·try simp at h1
  exact Xb (Qd (Zc 1 rfl (A6 (B1 rfl rfl ⟨H9 (by symm; rw [decide_eq_false_iff_not]; intro hm; obtain ⟨j, hj, hje⟩ := Dx8.1 hm; refine hno j (by omega) ?_; rw [Dr3, Dr5 hj]; exact hje), hC⟩))))
def Aq4 (c : Nat) : Int := if 48 ≤ c ∧ c ≤ 57 then (c : Int) - 48 else if 97 ≤ c ∧ c ≤ 102 then (c : Int) - 87 else if 65 ≤ c ∧ c ≤ 70 then (c : Int) - 55 else -1
theorem Bm0 (c : Nat) (hc : c < 256) : -1 ≤ Aq4 c ∧ Aq4 c ≤ 15 := by
 unfold Aq4
 repeat' split
 all_goals omega
theorem Co2 (c : Nat) (hc : c < 256) (w : World) : Calls P 197 #[.int .u8 (c : Nat)] w (Ret fun u w' => u = .int .i64 (Aq4 c) ∧ Chg [] w w') := by
 have hC := A8 [] w
 refine D3 Tryz.func197 rfl rfl (Qd (Zc 1 rfl (Qa (B0 (Qd (Z 3 rfl (B7 (d := 6) rfl (fun h1 => ?_) (fun h1 => ?_))))))))
 ·try simp at h1
  refine Qu rfl (Z 1 rfl (Qu rfl (Zc 3 rfl (A4 rfl (fun h2 => ?_) (fun h2 => ?_)))))
  ·try simp at h2
   refine Qd (Z 1 rfl (C7 rfl (Does.to (X8 rfl rfl) (I9 (show IntKind.u8.wrap ((c : Int) - 48) = (c : Int) - 48 by rw [wu8]; omega))) ?_))
   refine C7 rfl (H0 kn5 Tryz.underlying3 rfl (by exact I2 (by omega))) ?_
   exact Zc 1 rfl (A6 (B1 rfl rfl ⟨I9 (by unfold Aq4; rw [Dr2 (by omega)]), hC⟩))
  ·try simp at h2
   refine Qd (Z 3 rfl (B7 (d := 16) rfl (fun h3 => ?_) (fun h3 => ?_)))
   ·try simp at h3
    refine Qu rfl (Z 1 rfl (Qu rfl (Zc 3 rfl (A4 rfl (fun h4 => ?_) (fun h4 => ?_)))))
    ·try simp at h4
     refine Qd (Z 1 rfl (C7 rfl (Does.to (X8 rfl rfl) (I9 (show IntKind.u8.wrap ((c : Int) - 97) = (c : Int) - 97 by rw [wu8]; omega))) ?_))
     refine C7 rfl (H0 kn5 Tryz.underlying3 rfl (by exact I2 (by omega))) ?_
     exact Ad rfl rfl (by omega) (Zc 1 rfl (A6 (B1 rfl rfl ⟨I9 (by unfold Aq4; rw [Dr1 (by omega), Dr2 (by omega)]; omega), hC⟩)))
    ·try simp at h4
     refine Qd (Z 3 rfl (B7 (d := 27) rfl (fun h5 => ?_) (fun h5 => ?_)))
     ·try simp at h5
      refine Qu rfl (Z 1 rfl (Qu rfl (Zc 3 rfl (A4 rfl (fun h6 => ?_) (fun h6 => ?_)))))
      ·try simp at h6
       refine Qd (Z 1 rfl (C7 rfl (Does.to (X8 rfl rfl) (I9 (show IntKind.u8.wrap ((c : Int) - 65) = (c : Int) - 65 by rw [wu8]; omega))) ?_))
       refine C7 rfl (H0 kn5 Tryz.underlying3 rfl (by exact I2 (by omega))) ?_
       exact Ad rfl rfl (by omega) (Zc 1 rfl (A6 (B1 rfl rfl ⟨I9 (by unfold Aq4; rw [Dr1 (by omega), Dr1 (by omega), Dr2 (by omega)]; omega), hC⟩)))
      ·try simp at h6
       exact A7 (Qd (Zc 1 rfl (A6 (B1 rfl rfl ⟨I9 (by unfold Aq4; rw [Dr1 (by omega), Dr1 (by omega), Dr1 (by omega)]), hC⟩))))
     ·try simp at h5
      exact Qk rfl (Qk rfl (Zc 2 rfl (E3 rfl (A7 (Qd (Zc 1 rfl (A6 (B1 rfl rfl ⟨I9 (by unfold Aq4; rw [Dr1 (by omega), Dr1 (by omega), Dr1 (by omega)]), hC⟩))))))))
   ·try simp at h3
    refine Qk rfl (Qk rfl (Zc 2 rfl (E3 rfl (Qd (Z 3 rfl (B7 (d := 27) rfl (fun h7 => ?_) (fun h7 => ?_)))))))
    ·try simp at h7
     refine Qu rfl (Z 1 rfl (Qu rfl (Zc 3 rfl (A4 rfl (fun h8 => ?_) (fun h8 => ?_)))))
     ·try simp at h8
      refine Qd (Z 1 rfl (C7 rfl (Does.to (X8 rfl rfl) (I9 (show IntKind.u8.wrap ((c : Int) - 65) = (c : Int) - 65 by rw [wu8]; omega))) ?_))
      refine C7 rfl (H0 kn5 Tryz.underlying3 rfl (by exact I2 (by omega))) ?_
      exact Ad rfl rfl (by omega) (Zc 1 rfl (A6 (B1 rfl rfl ⟨I9 (by unfold Aq4; rw [Dr1 (by omega), Dr1 (by omega), Dr2 (by omega)]; omega), hC⟩)))
     ·try simp at h8
      exact A7 (Qd (Zc 1 rfl (A6 (B1 rfl rfl ⟨I9 (by unfold Aq4; rw [Dr1 (by omega), Dr1 (by omega), Dr1 (by omega)]), hC⟩))))
    ·try simp at h7
     exact Qk rfl (Qk rfl (Zc 2 rfl (E3 rfl (A7 (Qd (Zc 1 rfl (A6 (B1 rfl rfl ⟨I9 (by unfold Aq4; rw [Dr1 (by omega), Dr1 (by omega), Dr1 (by omega)]), hC⟩))))))))
 ·try simp at h1
  refine Qk rfl (Qk rfl (Zc 2 rfl (E3 rfl (Qd (Z 3 rfl (B7 (d := 16) rfl (fun h9 => ?_) (fun h9 => ?_)))))))
  ·try simp at h9
   refine Qu rfl (Z 1 rfl (Qu rfl (Zc 3 rfl (A4 rfl (fun h10 => ?_) (fun h10 => ?_)))))
   ·try simp at h10
    refine Qd (Z 1 rfl (C7 rfl (Does.to (X8 rfl rfl) (I9 (show IntKind.u8.wrap ((c : Int) - 97) = (c : Int) - 97 by rw [wu8]; omega))) ?_))
    refine C7 rfl (H0 kn5 Tryz.underlying3 rfl (by exact I2 (by omega))) ?_
    exact Ad rfl rfl (by omega) (Zc 1 rfl (A6 (B1 rfl rfl ⟨I9 (by unfold Aq4; rw [Dr1 (by omega), Dr2 (by omega)]; omega), hC⟩)))
   ·try simp at h10
    refine Qd (Z 3 rfl (B7 (d := 27) rfl (fun h11 => ?_) (fun h11 => ?_)))
    ·try simp at h11
     refine Qu rfl (Z 1 rfl (Qu rfl (Zc 3 rfl (A4 rfl (fun h12 => ?_) (fun h12 => ?_)))))
     ·try simp at h12
      refine Qd (Z 1 rfl (C7 rfl (Does.to (X8 rfl rfl) (I9 (show IntKind.u8.wrap ((c : Int) - 65) = (c : Int) - 65 by rw [wu8]; omega))) ?_))
      refine C7 rfl (H0 kn5 Tryz.underlying3 rfl (by exact I2 (by omega))) ?_
      exact Ad rfl rfl (by omega) (Zc 1 rfl (A6 (B1 rfl rfl ⟨I9 (by unfold Aq4; rw [Dr1 (by omega), Dr1 (by omega), Dr2 (by omega)]; omega), hC⟩)))
     ·try simp at h12
      exact A7 (Qd (Zc 1 rfl (A6 (B1 rfl rfl ⟨I9 (by unfold Aq4; rw [Dr1 (by omega), Dr1 (by omega), Dr1 (by omega)]), hC⟩))))
    ·try simp at h11
     exact Qk rfl (Qk rfl (Zc 2 rfl (E3 rfl (A7 (Qd (Zc 1 rfl (A6 (B1 rfl rfl ⟨I9 (by unfold Aq4; rw [Dr1 (by omega), Dr1 (by omega), Dr1 (by omega)]), hC⟩))))))))
  ·try simp at h9
   refine Qk rfl (Qk rfl (Zc 2 rfl (E3 rfl (Qd (Z 3 rfl (B7 (d := 27) rfl (fun h13 => ?_) (fun h13 => ?_)))))))
   ·try simp at h13
    refine Qu rfl (Z 1 rfl (Qu rfl (Zc 3 rfl (A4 rfl (fun h14 => ?_) (fun h14 => ?_)))))
    ·try simp at h14
     refine Qd (Z 1 rfl (C7 rfl (Does.to (X8 rfl rfl) (I9 (show IntKind.u8.wrap ((c : Int) - 65) = (c : Int) - 65 by rw [wu8]; omega))) ?_))
     refine C7 rfl (H0 kn5 Tryz.underlying3 rfl (by exact I2 (by omega))) ?_
     exact Ad rfl rfl (by omega) (Zc 1 rfl (A6 (B1 rfl rfl ⟨I9 (by unfold Aq4; rw [Dr1 (by omega), Dr1 (by omega), Dr2 (by omega)]; omega), hC⟩)))
    ·try simp at h14
     exact A7 (Qd (Zc 1 rfl (A6 (B1 rfl rfl ⟨I9 (by unfold Aq4; rw [Dr1 (by omega), Dr1 (by omega), Dr1 (by omega)]), hC⟩))))
   ·try simp at h13
    exact Qk rfl (Qk rfl (Zc 2 rfl (E3 rfl (A7 (Qd (Zc 1 rfl (A6 (B1 rfl rfl ⟨I9 (by unfold Aq4; rw [Dr1 (by omega), Dr1 (by omega), Dr1 (by omega)]), hC⟩))))))))
section
section
variable {P : Go.Program} {fn : Func} {T : Value → World → Prop} {e : Env} {w : World}
theorem L9 {t u : Tmp} {τ : TypeId} {a0 : Addr} {v x : Value} (hr : fn.results = #[.tmp u, .cell t τ]) (hx : lk e u = some x) (hv : lk e t = some (.pointer (some a0))) (hl : (loadVar τ a0).run P w = .ok v w) (h : T (.tuple #[x, v]) w) : Fin P fn T e w := fun a ha => by
 have h1 := ha.get t _ hv
 have h2 := ha.get u x hx
 refine ⟨_, ?_, h⟩
 simp only [results, hr]
 simp only [Du5] at h1
 simp [h1, asAddr, hl, ← h2]
theorem E6 {t u s : Tmp} {τ : TypeId} {a0 : Addr} {v x y : Value} (hr : fn.results = #[.tmp u, .tmp s, .cell t τ]) (hx : lk e u = some x) (hy : lk e s = some y) (hv : lk e t = some (.pointer (some a0))) (hl : (loadVar τ a0).run P w = .ok v w) (h : T (.tuple #[x, y, v]) w) : Fin P fn T e w := fun a ha => by
 have h1 := ha.get t _ hv
 have h2 := ha.get u x hx
 have h3 := ha.get s y hy
 refine ⟨_, ?_, h⟩
 simp only [results, hr]
 simp only [Du5] at h1
 simp [h1, asAddr, hl, ← h2, ← h3]
theorem O1 {t u s : Tmp} {τ : TypeId} {a0 : Addr} {v x y : Value} (hr : fn.results = #[.cell t τ, .tmp u, .tmp s]) (hv : lk e t = some (.pointer (some a0))) (hl : (loadVar τ a0).run P w = .ok v w) (hx : lk e u = some x) (hy : lk e s = some y) (h : T (.tuple #[v, x, y]) w) : Fin P fn T e w := fun a ha => by
 have h1 := ha.get t _ hv
 have h2 := ha.get u x hx
 have h3 := ha.get s y hy
 refine ⟨_, ?_, h⟩
 simp only [results, hr]
 simp only [Du5] at h1
 simp [h1, asAddr, hl, ← h2, ← h3]
theorem H8 {t u s : Tmp} {τ : TypeId} {a0 : Addr} {v x y : Value} (hr : fn.results = #[.tmp u, .cell t τ, .tmp s]) (hx : lk e u = some x) (hv : lk e t = some (.pointer (some a0))) (hl : (loadVar τ a0).run P w = .ok v w) (hy : lk e s = some y) (h : T (.tuple #[x, v, y]) w) : Fin P fn T e w := fun a ha => by
 have h1 := ha.get t _ hv
 have h2 := ha.get u x hx
 have h3 := ha.get s y hy
 refine ⟨_, ?_, h⟩
 simp only [results, hr]
 simp only [Du5] at h1
 simp [h1, asAddr, hl, ← h2, ← h3]
theorem C5 {t u : Tmp} {τ σ : TypeId} {a0 b0 : Addr} {v x : Value} (hr : fn.results = #[.cell t τ, .cell u σ]) (hv : lk e t = some (.pointer (some a0))) (hl : (loadVar τ a0).run P w = .ok v w) (hx : lk e u = some (.pointer (some b0))) (hk : (loadVar σ b0).run P w = .ok x w) (h : T (.tuple #[v, x]) w) : Fin P fn T e w := fun a ha => by
 have h1 := ha.get t _ hv
 have h2 := ha.get u _ hx
 refine ⟨_, ?_, h⟩
 simp only [results, hr]
 simp only [Du5] at h1 h2
 simp [h1, h2, asAddr, hl, hk]
end
end
def digR (L : List Nat) (i : Nat) : Prop := i < L.length ∧ 0 ≤ Aq4 (L.getD i 0) ∧ L.getD i 0 ≤ 57
instance (L : List Nat) (i : Nat) : Decidable (digR L i) := by unfold digR; infer_instance
def Cg8 (L : List Nat) : Nat → Int → Nat → Int × Nat
 | 0, n, i => (n, i)
 | f + 1, n, i => if digR L i then Cg8 L f (min (10 * n + Aq4 (L.getD i 0)) 100000) (i + 1) else (n, i)
theorem Bc1 {L : List Nat} {i : Nat} (h : ¬ digR L i) (f : Nat) (n : Int) : Cg8 L f n i = (n, i) := by
 cases f with
 | zero => rfl
 | succ f => rw [Cg8, Dr1 h]
theorem numR_go {L : List Nat} {i : Nat} (h : digR L i) (n : Int) : Cg8 L (L.length - i) n i = Cg8 L (L.length - (i + 1)) (min (10 * n + Aq4 (L.getD i 0)) 100000) (i + 1) := by
 have := h.1
 rw [show L.length - i = (L.length - (i + 1)) + 1 by omega, Cg8, Dr2 h]
def endV (x : Int × Int) : Value := .agg #[.int .i64 x.1, .int .i64 x.2]
def J5 (L : List Nat) (at_ : Nat) : Int × Int × Int :=
 let r := Cg8 L (L.length - at_) 0 at_
 if r.2 = at_ then (0, (r.2 : Int), 4) else if 1000 < r.1 then (0, (at_ : Int), 5) else (r.1, (r.2 : Int), 0)
theorem Ba7 (s : ByteArray) (hs : s.size ≤ 1000) (at_ : Nat) (hat : at_ ≤ 2000) (w : World) : Calls P 201 #[.string s, .int .i64 (at_ : Nat)] w (Ret fun u w' => Chg [] w w' ∧ u = .tuple #[.int .i64 (J5 (C2 s) at_).1, endV (J5 (C2 s) at_).2]) := by
 have hC := A8 [] w
 have hsl := E7 s
 have hlt := W5 s
 refine D3 Tryz.func201 rfl rfl (Qd (Z 1 rfl (B4 rfl (B6 I7 rfl) ?_)))
 intro b1 w1 hb1 hs1 hx1 hB1
 have hC := hC.s0 hx1
 refine Qc (Qd (Zc 3 rfl (Qa (B0 (D7 (σ := Int × Nat) (fun (n, i) => [(0, .string s), (1, .int .i64 at_), (5, .pointer (some ⟨b1, 0, none⟩)), (6, .int .i64 n), (7, .int .i64 i)]) (fun (n, i) wr => Chg [] w wr ∧ Blk wr b1 [.int .i64 0, .int .i64 0] 232 ∧ Cg8 (C2 s) ((C2 s).length - i) n i = Cg8 (C2 s) ((C2 s).length - at_) 0 at_ ∧ 0 ≤ n ∧ n ≤ 100000 ∧ at_ ≤ i ∧ i ≤ 3000) (fun (n, i) wr => 3000 - i) (0, at_) (sb rfl) ?_ ?_)))))
 ·exact ⟨hC, hB1, rfl, by omega, by omega, Ds3 _, by omega⟩
 rintro ⟨n, i⟩ w9 ⟨hC, hB1, hN, hn0, hn1, hi0, hi1⟩
 refine Qa (Qd (Z 2 rfl (C7 rfl (F4 Tryz.underlying9 rfl) (Z 2 rfl (B7 (d := 13) rfl (fun h1 => ?_) (fun h1 => ?_))))))
 ·try simp at h1
  have hin : i < s.size := by omega
  obtain ⟨u8, hu, hu2⟩ := I4 s i hin
  have hb := hlt _ (H4 (C2 s) 0 i (by omega))
  have hxr := Bm0 _ hb
  refine Qu rfl (Z 1 rfl (Qu rfl (Z 1 rfl (Qu rfl (C7 rfl (Does.to (E8 Tryz.underlying9 rfl rfl (by omega) (by exact hu)) (I9 (show ((u8.toNat : Nat) : Int) = (((C2 s).getD i 0 : Nat) : Int) by rw [hu2]))) ?_)))))
  refine Qu rfl (Ca fb197 rfl (Co2 ((C2 s).getD i 0) hb _) ?_)
  rintro _ w2 ⟨rfl, hx2⟩
  have hC := hC.s0 hx2
  have hB1 := hB1.u hx2
  refine Qu rfl (Z 3 rfl (B7 (d := 20) rfl (fun h2 => ?_) (fun h2 => ?_)))
  ·try simp at h2
   refine Qu rfl (Z 1 rfl (Qu rfl (Z 1 rfl (Qu rfl (C7 rfl (Does.to (E8 Tryz.underlying9 rfl rfl (by omega) (by exact hu)) (I9 (show ((u8.toNat : Nat) : Int) = (((C2 s).getD i 0 : Nat) : Int) by rw [hu2]))) ?_)))))
   refine Qu rfl (Zc 2 rfl (A4 rfl (fun h3 => ?_) (fun h3 => ?_)))
   ·rw [cmpB_leq] at h3
    rw [← Dr3] at h2
    have hd : digR (C2 s) i := ⟨by omega, h2, by omega⟩
    rw [numR_go hd] at hN
    refine A7 (B0 (Qd (Z 1 rfl (C7 rfl (Aj8 rfl rfl (by omega)) (Z 2 rfl (C7 rfl (Does.to (E8 Tryz.underlying9 rfl rfl (by omega) (by exact hu)) (I9 (show ((u8.toNat : Nat) : Int) = (((C2 s).getD i 0 : Nat) : Int) by rw [hu2]))) ?_))))))
    refine Ca fb197 rfl (Co2 ((C2 s).getD i 0) hb _) ?_
    rintro _ w3 ⟨rfl, hx3⟩
    have hC := hC.s0 hx3
    have hB1 := hB1.u hx3
    refine Ad rfl rfl (by omega) (C7 rfl (V7 rfl rfl) (Zc 1 rfl (Qb (Z 1 rfl (Ad rfl rfl (by omega) (Zc 1 rfl ⟨(min (10 * n + Aq4 ((C2 s).getD i 0)) 100000, i + 1), sb rfl, ?_, ?_⟩))))))
    exact ⟨hC, hB1, hN, by omega, by omega, by omega, by omega⟩
    show 3000 - (i + 1) < 3000 - i
    omega
   ·rw [cmpB_leqF] at h3
    have hX := hN.symm.trans (Bc1 (fun h => by have := h.2.2; omega) _ _)
    refine Xb (Qa (Qd (Zc 3 rfl (A4 rfl (fun h4 => ?_) (fun h4 => ?_)))))
    ·try simp at h4
     refine Qd (Z 1 rfl (C7 rfl (A9 I7 K0 rfl (by rfl)) ?_))
     refine Z 1 rfl (Pe G1 rfl ‹_› rfl rfl ?_)
     intro w4 hs4 hx4 hB1
     have hC := hC.step hx4 (by simp; omega)
     refine Qc (A6 (L9 rfl rfl rfl (A5 F3 ‹_› rfl rfl) ?_))
     exact ⟨hC, by unfold J5; simp only [hX]; rw [Dr2 (by omega)]; rfl⟩
    ·try simp at h4
     refine A7 (Qa (Qd (Zc 2 rfl (A4 rfl (fun h5 => ?_) (fun h5 => ?_)))))
     ·try simp at h5
      refine Qd (Z 1 rfl (C7 rfl (A9 I7 K0 rfl (by rfl)) ?_))
      refine Z 1 rfl (Pe G1 rfl ‹_› rfl rfl ?_)
      intro w5 hs5 hx5 hB1
      have hC := hC.step hx5 (by simp; omega)
      refine Qc (A6 (L9 rfl rfl rfl (A5 F3 ‹_› rfl rfl) ?_))
      exact ⟨hC, by unfold J5; simp only [hX]; rw [Dr1 (by omega), Dr2 (by omega)]; rfl⟩
     ·try simp at h5
      refine A7 (Qd (Z 2 rfl (C7 rfl (A9 I7 K0 rfl (by rfl)) ?_)))
      refine Z 1 rfl (Pe G1 rfl ‹_› rfl rfl ?_)
      intro w6 hs6 hx6 hB1
      have hC := hC.step hx6 (by simp; omega)
      refine Qc (A6 (L9 rfl rfl rfl (A5 F3 ‹_› rfl rfl) ?_))
      exact ⟨hC, by unfold J5; simp only [hX]; rw [Dr1 (by omega), Dr1 (by omega)]; rfl⟩
  ·try simp at h2
   rw [← Dr3] at h2
   have hX := hN.symm.trans (Bc1 (fun h => by have := h.2.1; omega) _ _)
   refine Qk rfl (Qk rfl (Qk rfl (Qk rfl (Zc 1 rfl (E3 rfl (Xb (Qa (Qd (Zc 3 rfl (A4 rfl (fun h4 => ?_) (fun h4 => ?_)))))))))))
   ·try simp at h4
    refine Qd (Z 1 rfl (C7 rfl (A9 I7 K0 rfl (by rfl)) ?_))
    refine Z 1 rfl (Pe G1 rfl ‹_› rfl rfl ?_)
    intro w7 hs7 hx7 hB1
    have hC := hC.step hx7 (by simp; omega)
    refine Qc (A6 (L9 rfl rfl rfl (A5 F3 ‹_› rfl rfl) ?_))
    exact ⟨hC, by unfold J5; simp only [hX]; rw [Dr2 (by omega)]; rfl⟩
   ·try simp at h4
    refine A7 (Qa (Qd (Zc 2 rfl (A4 rfl (fun h5 => ?_) (fun h5 => ?_)))))
    ·try simp at h5
     refine Qd (Z 1 rfl (C7 rfl (A9 I7 K0 rfl (by rfl)) ?_))
     refine Z 1 rfl (Pe G1 rfl ‹_› rfl rfl ?_)
     intro w8 hs8 hx8 hB1
     have hC := hC.step hx8 (by simp; omega)
     refine Qc (A6 (L9 rfl rfl rfl (A5 F3 ‹_› rfl rfl) ?_))
     exact ⟨hC, by unfold J5; simp only [hX]; rw [Dr1 (by omega), Dr2 (by omega)]; rfl⟩
    ·try simp at h5
     refine A7 (Qd (Z 2 rfl (C7 rfl (A9 I7 K0 rfl (by rfl)) ?_)))
     refine Z 1 rfl (Pe G1 rfl ‹_› rfl rfl ?_)
     intro w9 hs9 hx9 hB1
     have hC := hC.step hx9 (by simp; omega)
     refine Qc (A6 (L9 rfl rfl rfl (A5 F3 ‹_› rfl rfl) ?_))
     exact ⟨hC, by unfold J5; simp only [hX]; rw [Dr1 (by omega), Dr1 (by omega)]; rfl⟩
 ·try simp at h1
  have hX := hN.symm.trans (Bc1 (fun h => by have := h.1; omega) _ _)
  refine Qk rfl (Qk rfl (Qk rfl (Qk rfl (Qk rfl (Z 2 rfl (Qk rfl (Qk rfl (Qk rfl (Qk rfl (Zc 1 rfl (E3 rfl (Xb (Qa (Qd (Zc 3 rfl (A4 rfl (fun h4 => ?_) (fun h4 => ?_)))))))))))))))))
  ·try simp at h4
   refine Qd (Z 1 rfl (C7 rfl (A9 I7 K0 rfl (by rfl)) ?_))
   refine Z 1 rfl (Pe G1 rfl ‹_› rfl rfl ?_)
   intro w10 hs10 hx10 hB1
   have hC := hC.step hx10 (by simp; omega)
   refine Qc (A6 (L9 rfl rfl rfl (A5 F3 ‹_› rfl rfl) ?_))
   exact ⟨hC, by unfold J5; simp only [hX]; rw [Dr2 (by omega)]; rfl⟩
  ·try simp at h4
   refine A7 (Qa (Qd (Zc 2 rfl (A4 rfl (fun h5 => ?_) (fun h5 => ?_)))))
   ·try simp at h5
    refine Qd (Z 1 rfl (C7 rfl (A9 I7 K0 rfl (by rfl)) ?_))
    refine Z 1 rfl (Pe G1 rfl ‹_› rfl rfl ?_)
    intro w11 hs11 hx11 hB1
    have hC := hC.step hx11 (by simp; omega)
    refine Qc (A6 (L9 rfl rfl rfl (A5 F3 ‹_› rfl rfl) ?_))
    exact ⟨hC, by unfold J5; simp only [hX]; rw [Dr1 (by omega), Dr2 (by omega)]; rfl⟩
   ·try simp at h5
    refine A7 (Qd (Z 2 rfl (C7 rfl (A9 I7 K0 rfl (by rfl)) ?_)))
    refine Z 1 rfl (Pe G1 rfl ‹_› rfl rfl ?_)
    intro w12 hs12 hx12 hB1
    have hC := hC.step hx12 (by simp; omega)
    refine Qc (A6 (L9 rfl rfl rfl (A5 F3 ‹_› rfl rfl) ?_))
    exact ⟨hC, by unfold J5; simp only [hX]; rw [Dr1 (by omega), Dr1 (by omega)]; rfl⟩
def Aw1 (L : List (Int × Int)) : List Value := L.flatMap fun p => [.int .i64 p.1, .int .i64 p.2]
theorem Cw5 (L : List (Int × Int)) : (Aw1 L).length = L.length * 2 := by
 induction L with
 | nil => rfl
 | cons p r ih => simp only [Aw1, Dy2, Dr7, Du3, Ea5] at *; omega
theorem Cw6 (L : List (Int × Int)) : ∀ (k : Nat), k < L.length → (Aw1 L)[k * 2]? = some (.int .i64 (L.getD k default).1) ∧ (Aw1 L)[k * 2 + 1]? = some (.int .i64 (L.getD k default).2) := by
 induction L with
 | nil => intro k h; simp at h
 | cons p r ih =>
  intro k h
  cases k with
  | zero => exact ⟨rfl, rfl⟩
  | succ k =>
   have := ih k (by simpa using h)
   rw [show (k + 1) * 2 = k * 2 + 2 by omega]
   exact ⟨this.1, this.2⟩
def inP (L : List (Int × Int)) (b : Nat) : Bool := L.any fun p => decide (p.1 ≤ (b : Int)) && decide ((b : Int) ≤ p.2)
def smI (L : List (Int × Int)) (neg : Bool) (b : Nat) : List Bool := (List.range 256).map fun x => decide (x < b) && (inP L x != neg)
def smL (L : List (Int × Int)) (neg : Bool) : List Bool := (List.range 256).map fun x => inP L x != neg
def smS (L : List (Int × Int)) (neg : Bool) : Nat := onS (smL L neg)
theorem Dd4 (L : List (Int × Int)) (neg : Bool) (b : Nat) : (smI L neg b).length = 256 := by simp [smI]
theorem smI_all (L : List (Int × Int)) (neg : Bool) : smI L neg 256 = smL L neg := by
 unfold smI smL
 apply List.map_congr_left
 intro x hx
 rw [Ds2 (Du0.1 hx), Ea3]
theorem smI_zero (L : List (Int × Int)) (neg : Bool) : smI L neg 0 = List.replicate 256 false := by
 unfold smI
 rw [List.eq_replicate_iff]
 refine ⟨by simp, fun x hx => ?_⟩
 obtain ⟨y, _, rfl⟩ := Dv6.1 hx
 rw [Ds4 (by omega), Bool.false_and]
theorem smI_set (L : List (Int × Int)) (neg : Bool) (b : Nat) (hb : b < 256) : (smI L neg b).set b (inP L b != neg) = smI L neg (b + 1) := by
 apply Ds9
 intro j
 simp only [smI, Dt5, Dt6, Dx3, Dy3]
 by_cases hj : b = j
 ·subst hj
  simp [hb]
 ·simp only [Dr1 hj]
  by_cases hl : j < 256
  ·simp only [Dt9 hl, Du4]
   congr 1
   by_cases h2 : j < b
   ·rw [Ds2 h2, Ds2 (by omega)]
   ·rw [Ds4 h2, Ds4 (by omega)]
  ·simp [Dt3 (l := List.range 256) (i := j) (by simp; omega)]
theorem any_take {α : Type} (f : α → Bool) (l : List α) (d : α) (k : Nat) (h : k < l.length) : (l.take (k + 1)).any f = ((l.take k).any f || f (l.getD k d)) := by
 rw [Dw6 h, List.any_append]
 simp [Dr3, Dr5 h]
theorem rsome_c (L : List (Int × Int)) (neg : Bool) (F : Nat → Prop) (A : Option Addr) (c : Nat) (hL : L.length ≤ 1000) (w : World) (hF : ∀ x, F x → x < w.heap.size) (hr : Rd F w 2 A L.length (Aw1 L)) : Calls P 170 #[.slice A L.length c, .bool neg] w (Ret fun u w' => u = .agg (C1 (smS L neg)).toArray ∧ Chg [] w w') := by
 have hC := A8 [] w
 refine D3 Tryz.func170 rfl rfl (Qd (B4 rfl (B6 K5 rfl) ?_))
 intro b1 w1 hb1 hs1 hx1 hB1
 refine Qc (Qd (B4 rfl (L8 el43 zr4 rfl (cs := U2 (List.replicate 256 false)) (by omega) (by omega) (by show (madeCells #[_] (Int.toNat 256 * 1)).toList = _; rw [P9]; simp [U2])) ?_))
 intro b2 w2 hb2 hs2 hx2 hB2
 have hC := hC.s0 (hx1.s0 hx2)
 have hr := hr.u (hx1.s0 hx2)
 have hB1 := hB1.u hx2
 refine Zc 1 rfl (Qa (Qd (Zc 1 rfl (B0 (D7 (σ := Nat) (fun b => [(0, .slice A L.length c), (1, .bool neg), (4, .pointer (some ⟨b1, 0, none⟩)), (5, .slice (some ⟨b2, 0, none⟩) 256 256), (6, .int .i64 b)]) (fun b wr => Chg [] w wr ∧ Rd F wr 2 A L.length (Aw1 L) ∧ Blk wr b1 (C1 0) 70 ∧ Blk wr b2 (U2 (smI L neg b)) 4 ∧ b ≤ 256) (fun b wr => 256 - b) 0 (sb rfl) ?_ ?_)))))
 ·rw [← C3] at hB1
  exact ⟨hC, hr, hB1, by rw [smI_zero]; exact hB2, by omega⟩
 rintro b w9 ⟨hC, hr, hB1, hB2, hb⟩
 refine Qa (Qd (Zc 2 rfl (A4 rfl (fun h1 => ?_) (fun h1 => ?_))))
 ·try simp at h1
  have hb2 : b < 256 := by omega
  refine A7 (Qa (B0 (Qd (Zc 1 rfl (Qa (Qd (Zc 1 rfl (B0 (D7 (σ := Nat) (fun i => [(0, .slice A L.length c), (1, .bool neg), (4, .pointer (some ⟨b1, 0, none⟩)), (5, .slice (some ⟨b2, 0, none⟩) 256 256), (6, .int .i64 b), (7, .bool ((L.take i).any fun p => decide (p.1 ≤ (b : Int)) && decide ((b : Int) ≤ p.2))), (8, .int .i64 i)]) (fun i wr => Chg [] w wr ∧ Rd F wr 2 A L.length (Aw1 L) ∧ Blk wr b1 (C1 0) 70 ∧ Blk wr b2 (U2 (smI L neg b)) 4 ∧ i ≤ L.length) (fun i wr => L.length - i) 0 (sb rfl) ?_ ?_)))))))))
  ·exact ⟨hC, hr, hB1, hB2, by omega⟩
  rintro i w8 ⟨hC, hr, hB1, hB2, hi⟩
  refine Qa (Qd (Z 2 rfl (Ln Tryz.underlying268 rfl (Zc 1 rfl (A4 rfl (fun h2 => ?_) (fun h2 => ?_))))))
  ·try simp at h2
   have hin : i < L.length := by omega
   obtain ⟨g, off, rfl, hFg, hlt, hcell⟩ := hr.at_ (by omega)
   have hg2 := Cw6 L i hin
   have hc1 := hcell _ _ hg2.1
   have hc2 := hcell _ _ hg2.2
   have hat := any_take (fun p : Int × Int => decide (p.1 ≤ (b : Int)) && decide ((b : Int) ≤ p.2)) L default i hin
   refine A7 (Qa (B0 (Qb (Z 2 rfl (B7 (d := 21) rfl (fun h3 => ?_) (fun h3 => ?_))))))
   ·refine Qk rfl (Qk rfl (Qk rfl (Qk rfl (Qk rfl (Qk rfl (Qk rfl (Qk rfl (G3 rfl rfl rfl rfl (fun h => by cases h) ?_))))))))
    refine G3 rfl rfl rfl rfl (fun h => by cases h) ?_
    refine G3 rfl rfl rfl rfl (fun h => by cases h) ?_
    refine G3 rfl rfl rfl rfl (fun h => by cases h) ?_
    refine G3 rfl rfl rfl rfl (fun h => by cases h) ?_
    refine G3 rfl rfl rfl rfl (fun h => by cases h) ?_
    refine G3 rfl rfl rfl rfl (fun h => by cases h) ?_
    refine Qk rfl (Zc 2 rfl (Qb (Z 1 rfl (Ad rfl rfl (by omega) (Zc 1 rfl ⟨i + 1, ⟨rfl, rfl, rfl, rfl, rfl, (G9 rfl (by rw [hat, h3]; rfl)), rfl, trivial⟩, ?_, ?_⟩)))))
    exact ⟨hC, hr, hB1, hB2, hin⟩
    omega
   ·refine Qu rfl (Z 1 rfl (Qu rfl (Z 1 rfl (Qu rfl (Z 1 rfl (Qu rfl (C7 rfl (B9 Am3 rfl rfl (by omega) (by omega)) (Qu rfl (C7 rfl (E2 U3 rfl rfl (by omega) (by omega)) (Qu rfl (Lc o3 rfl hc1 (Qu rfl (Z 1 rfl (Qu rfl (Z 1 rfl (B7 (d := 29) rfl (fun h4 => ?_) (fun h4 => ?_)))))))))))))))))
    ·rw [cmpB_geq] at h4
     refine Qu rfl (Z 1 rfl (Qu rfl (Z 1 rfl (Qu rfl (Z 1 rfl (Qu rfl (C7 rfl (B9 Am3 rfl rfl (by omega) (by omega)) (Qu rfl (C7 rfl (E2 U3 rfl rfl (by omega) (by omega)) (Qu rfl (Lc o3 rfl hc2 (Qu rfl (Z 1 rfl (Qu rfl (Zc 3 rfl (Qb (Z 1 rfl (Ad rfl rfl (by omega) (Zc 1 rfl ⟨i + 1, ⟨rfl, rfl, rfl, rfl, rfl, (G9 rfl (by rw [hat, h3, Ds2 h4]; rfl)), rfl, trivial⟩, ?_, ?_⟩)))))))))))))))))))
     exact ⟨hC, hr, hB1, hB2, hin⟩
     omega
    ·rw [cmpB_geqF] at h4
     refine Qk rfl (Qk rfl (Qk rfl (Qk rfl (Qk rfl (Qk rfl (Qk rfl (Qu rfl (Zc 3 rfl (Qb (Z 1 rfl (Ad rfl rfl (by omega) (Zc 1 rfl ⟨i + 1, ⟨rfl, rfl, rfl, rfl, rfl, (G9 rfl (by rw [hat, h3, Ds4 (by omega)]; rfl)), rfl, trivial⟩, ?_, ?_⟩))))))))))))
     exact ⟨hC, hr, hB1, hB2, hin⟩
     omega
  ·try simp at h2
   have hii : i = L.length := by omega
   subst hii
   refine Xb (Qb (Z 4 rfl (C7 rfl (Does.neB Tryz.underlying4 rfl rfl) (C7 rfl (B3 sl43 rfl rfl (by omega) (by omega)) (Pb (cs' := (U2 (smI L neg (b + 1)))) sz4 rfl rfl hB2 rfl rfl rfl (by rw [L7, Dd4, Dw7]; omega) (by rw [Ds1, Dt2, U8 _ _ _ (by rw [L7, Dd4]; exact hb2), ← smI_set L neg b hb2, Dv3]; unfold inP U2; rw [Dx7]; rfl) ?_)))))
   intro w3 hs3 hx3 hB2
   have hC := hC.step hx3 (by simp; omega)
   have hr := hr.q hx3 (by intro b hb hFb; have := hF _ hFb; simp at hb; omega)
   have hB1 := hB1.q hx3 (by simp; omega)
   refine Qc (Qb (Z 1 rfl (Ad rfl rfl (by omega) (Zc 1 rfl ⟨b + 1, sb rfl, ?_, ?_⟩))))
   exact ⟨hC, hr, hB1, hB2, by omega⟩
   omega
 ·try simp at h1
  have hbb : b = 256 := by omega
  subst hbb
  rw [smI_all] at hB2
  refine Xb (Qd (Z 1 rfl (Ca fb200 rfl (Cf7 (fun x => x < w9.heap.size) (smL L neg) (some ⟨b2, 0, none⟩) 256 (by simp [smL]) _ (fun x h => h) (hB2.rd (by simp [U2, smL]) hB2.lt)) ?_)))
  rintro _ w4 ⟨rfl, hx4⟩
  have hB1 := hB1.u hx4
  refine Pe J1 rfl ‹_› rfl rfl ?_
  intro w5 hs5 hx5 hB1
  have hC := hC.step (hx4.j hx5) (by simp <;> omega)
  refine Qc (A6 (C8 rfl rfl (A5 I5 ‹_› rfl rfl) ?_))
  exact ⟨rfl, hC⟩
theorem J9 (L : List (Int × Int)) (neg : Bool) (b m : Nat) (hm : m = L.length) (hm2 : m ≤ 1000) (w : World) (hB : Blk w b (Aw1 L) 252) : Calls P 170 #[.slice (some ⟨b, 0, none⟩) m m, .bool neg] w (Ret fun u w' => u = .agg (C1 (smS L neg)).toArray ∧ Chg [] w w') := by
 subst hm
 exact rsome_c L neg (fun x => x < w.heap.size) _ _ hm2 w (fun x h => h) (hB.rd (by rw [Cw5]) hB.lt)
def digs : List (Int × Int) := [(48, 57)]
def wrds : List (Int × Int) := [(48, 57), (97, 122), (65, 90), (95, 95)]
def spcs : List (Int × Int) := [(9, 13), (32, 32)]
def selfT : ByteArray := ⟨#[92, 124, 40, 41, 91, 93, 123, 125, 42, 43, 63, 46, 94, 36, 47, 45]⟩
def unT : ByteArray := ⟨#[49, 50, 51, 52, 53, 54, 55, 56, 57, 98, 66, 65, 122, 90, 71, 81, 69, 107, 112, 80]⟩
def Bi1 (L : List Nat) (at_ : Nat) : Nat → Nat → Nat ⊕ Nat
 | 0, n => .inl n
 | k + 1, n => if L.length ≤ at_ then .inr (min at_ L.length) else if Aq4 (L.getD at_ 0) < 0 then .inr (min at_ L.length) else Bi1 L (at_ + 1) k (16 * n + (Aq4 (L.getD at_ 0)).toNat)
def Dm3 (L : List Nat) (at_ : Nat) : Nat × Int × Int :=
 if L.length ≤ at_ + 1 then (0, (L.length : Int), 4) else
 let c := L.getD (at_ + 1) 0
 let e : Int × Int := ((at_ : Int) + 2, 0)
 if c ∈ C2 selfT then (smS [((c : Int), (c : Int))] false, e)
 else if c = 110 then (smS [(10, 10)] false, e)
 else if c = 116 then (smS [(9, 9)] false, e)
 else if c = 114 then (smS [(13, 13)] false, e)
 else if c = 102 then (smS [(12, 12)] false, e)
 else if c = 118 then (smS [(11, 11)] false, e)
 else if c = 100 ∨ c = 68 then (smS digs (Ad2 .eql (c : Int) 68), e)
 else if c = 119 ∨ c = 87 then (smS wrds (Ad2 .eql (c : Int) 87), e)
 else if c = 115 ∨ c = 83 then (smS spcs (Ad2 .eql (c : Int) 83), e)
 else if c = 120 then
  match Bi1 L (at_ + 2) 2 0 with
  | .inl n => (smS [((n : Int), (n : Int))] false, (at_ : Int) + 4, 0)
  | .inr i => (0, (i : Int), 4)
 else if c ∈ C2 unT then (0, (at_ : Int), 6)
 else (0, (at_ : Int) + 1, 4)
def EscR (r : Nat × Int × Int) (w : World) (u : Value) (w' : World) : Prop := Chg [] w w' ∧ u = .tuple #[.agg (C1 r.1).toArray, endV r.2]
theorem resc_c (s : ByteArray) (hs : s.size ≤ 1000) (at_ : Nat) (hat : at_ ≤ 2000) (w : World) : Calls P 168 #[.string s, .int .i64 (at_ : Nat)] w (Ret (EscR (Dm3 (C2 s) at_) w)) := by
 have hC := A8 [] w
 have hsl := E7 s
 have hlt := W5 s
 refine D3 Tryz.func168 rfl rfl (Qd (B4 rfl (B6 K5 rfl) ?_))
 intro b1 w1 hb1 hs1 hx1 hB1
 refine B4 rfl (B6 I7 rfl) ?_
 intro b2 w2 hb2 hs2 hx2 hB2
 have hC := hC.s0 (hx1.s0 hx2)
 have hB1 := hB1.u hx2
 refine Qc (Qa (Qd (Z 1 rfl (Ad rfl rfl (by omega) (Z 1 rfl (C7 rfl (F4 Tryz.underlying9 rfl) (Zc 1 rfl (A4 rfl (fun h1 => ?_) (fun h1 => ?_)))))))))
 ·try simp at h1
  refine Qd (C7 rfl (D4 K5 An8 rfl (by rfl)) ?_)
  refine Z 1 rfl (C7 rfl (F4 Tryz.underlying9 rfl) (C7 rfl (A9 I7 K0 rfl (by rfl)) ?_))
  refine Pe J1 rfl ‹_› rfl rfl ?_
  intro w3 hs3 hx3 hB1
  have hB2 := hB2.q hx3 (by simp; omega)
  refine Pe G1 rfl ‹_› rfl rfl ?_
  intro w4 hs4 hx4 hB2
  have hC := hC.step (hx3.j hx4) (by simp <;> omega)
  have hB1 := hB1.q hx4 (by simp; omega)
  refine Qc (A6 (C5 rfl rfl (A5 I5 ‹_› rfl rfl) rfl (A5 F3 ‹_› rfl rfl) ?_))
  exact ⟨hC, by unfold Dm3; rw [Dr2 (by omega)]; rw [C3, ← hsl]; rfl⟩
 ·try simp at h1
  have hin : at_ + 1 < s.size := by omega
  obtain ⟨u8, hu, hu2⟩ := I4 s (at_ + 1) hin
  have hb := hlt _ (H4 (C2 s) 0 (at_ + 1) (by omega))
  refine A7 (Qd (Z 2 rfl (Ad rfl rfl (by omega) (C7 rfl (Does.to (E8 Tryz.underlying9 rfl rfl (by omega) (by exact hu)) (I9 (show ((u8.toNat : Nat) : Int) = (((C2 s).getD (at_ + 1) 0 : Nat) : Int) by rw [hu2]))) ?_))))
  have hE : Dm3 (C2 s) at_ = Dm3 (C2 s) at_ := rfl
  conv at hE => rhs; unfold Dm3
  rw [Dr1 (by omega)] at hE
  simp only [] at hE
  generalize hc : (C2 s).getD (at_ + 1) 0 = c at *
  refine Zc 1 rfl (Qd (Z 1 rfl (C7 rfl (H0 kn5 Tryz.underlying3 rfl (by exact I2 (by omega))) ?_)))
  refine Z 1 rfl (C7 rfl (H0 kn5 Tryz.underlying3 rfl (by exact I2 (by omega))) ?_)
  refine C7 rfl (D4 O3 U3 rfl (by rfl)) ?_
  refine B4 rfl (B5 Am3 Tryz.underlying268 O3 rfl rfl rfl (by rfl)) ?_
  intro b5 w5 hb5 hs5 hx5 hB5
  refine Zc 1 rfl (Qd (C7 rfl (D4 O3 U3 rfl (by rfl)) ?_))
  refine B4 rfl (B5 Am3 Tryz.underlying268 O3 rfl rfl rfl (by rfl)) ?_
  intro b6 w6 hb6 hs6 hx6 hB6
  refine Zc 1 rfl (Qd (C7 rfl (D4 O3 U3 rfl (by rfl)) ?_))
  refine C7 rfl (D4 O3 U3 rfl (by rfl)) ?_
  refine C7 rfl (D4 O3 U3 rfl (by rfl)) ?_
  refine C7 rfl (D4 O3 U3 rfl (by rfl)) ?_
  refine B4 rfl (B5 Am3 Tryz.underlying268 O3 rfl rfl rfl (by rfl)) ?_
  intro b7 w7 hb7 hs7 hx7 hB7
  refine Zc 1 rfl (Qd (C7 rfl (D4 O3 U3 rfl (by rfl)) ?_))
  refine C7 rfl (D4 O3 U3 rfl (by rfl)) ?_
  refine B4 rfl (B5 Am3 Tryz.underlying268 O3 rfl rfl rfl (by rfl)) ?_
  intro b8 w8 hb8 hs8 hx8 hB8
  refine Zc 1 rfl (Qd (Z 1 rfl (Ad rfl rfl (by omega) (C7 rfl (A9 I7 K0 rfl (by rfl)) ?_))))
  refine B4 rfl (B6 I7 rfl) ?_
  intro b9 w9 hb9 hs9 hx9 hB9
  refine Pe G1 rfl ‹_› rfl rfl ?_
  intro w10 hs10 hx10 hB9
  refine Qc (Qa (B0 (Qd (Z 1 rfl (Ca fb171 rfl (rin_c selfT (by decide) c hb _) ?_)))))
  rintro _ w11 ⟨rfl, hx11⟩
  have hC := hC.step ((((((hx5.j hx6).j hx7).j hx8).j hx9).j hx10).j hx11) (by simp <;> omega)
  have hB1 := hB1.q ((((((hx5.j hx6).j hx7).j hx8).j hx9).j hx10).j hx11) (by simp <;> omega)
  have hB2 := hB2.q ((((((hx5.j hx6).j hx7).j hx8).j hx9).j hx10).j hx11) (by simp <;> omega)
  have hB5 := hB5.q (((((hx6.j hx7).j hx8).j hx9).j hx10).j hx11) (by simp <;> omega)
  have hB6 := hB6.q ((((hx7.j hx8).j hx9).j hx10).j hx11) (by simp <;> omega)
  have hB7 := hB7.q (((hx8.j hx9).j hx10).j hx11) (by simp <;> omega)
  have hB8 := hB8.q ((hx9.j hx10).j hx11) (by simp <;> omega)
  have hB9 := hB9.u hx11
  refine Zc 1 rfl (A4 rfl (fun g1 => ?_) (fun g1 => ?_))
  ·rw [Ds5] at g1
   rw [Dr2 g1] at hE
   refine Qa (C6 (S := [b1]) 4 [(0, 0), (0, 2), (1, 1), (1, 3), (2, 4)] mo (by kernel_rfl) ?_)
   intro w12 hx12 hh12
   have hB5 := hB5.u hx12
   have hB9 := hB9.u hx12
   have hCS12 := A8 ([b1]) w12
   refine Z 1 rfl (D5 rfl (B8 F3 rfl ‹_› (by simp; omega) rfl rfl) ?_)
   refine C4 rfl (C0 Al3 rfl) (J9 [((c : Int), (c : Int))] false _ _ rfl (by simp) _ ‹_›) ?_
   rintro _ w13 ⟨rfl, hx13⟩
   have hB1 := hB1.u (hx12.s0 hx13)
   have hCS12 := hCS12.s0 hx13
   refine ⟨hCS12, ?_⟩
   refine H1 (F8 J1 rfl rfl ‹_› rfl rfl rfl rfl rfl) ?_
   intro w14 hs14 hx14 hB1
   have hB2 := hB2.q ((hx12.j hx13).j hx14) (by simp <;> omega)
   have hCS12 := hCS12.step hx14 (by simp; done)
   refine ⟨hCS12, ?_⟩
   refine Pe G1 rfl ‹_› rfl rfl ?_
   intro w15 hs15 hx15 hB2
   have hC := hC.step (((hx12.j hx13).j hx14).j hx15) (by simp <;> omega)
   have hB1 := hB1.q hx15 (by simp; omega)
   refine Qc (A6 (C5 rfl rfl (A5 I5 ‹_› rfl rfl) rfl (A5 F3 ‹_› rfl rfl) ?_))
   exact ⟨hC, by rw [hE]; rfl⟩
  ·rw [decide_eq_false_iff_not] at g1
   rw [Dr1 g1] at hE
   refine Qd (Zc 3 rfl (A4 rfl (fun k0 => ?_) (fun k0 => ?_)))
   ·try simp at k0
    rw [Dr2 (by omega)] at hE
    refine Qa (C6 (S := [b1]) 5 [(0, 0), (0, 3), (1, 1), (1, 2), (1, 4), (2, 5)] mo (by kernel_rfl) ?_)
    intro w16 hx16 hh16
    have hB9 := hB9.u hx16
    have hCS16 := A8 ([b1]) w16
    refine D5 rfl (D4 O3 U3 rfl (by rfl)) ?_
    refine D5 rfl (B8 F3 rfl ‹_› (by simp; omega) rfl rfl) ?_
    refine D9 rfl (B5 Am3 Tryz.underlying268 O3 rfl rfl rfl (by rfl)) ?_
    intro b17 w17 hb17 hs17 hx17 hB17
    have hCS16 := hCS16.s0 hx17
    refine ⟨hCS16, ?_⟩
    refine C4 rfl (C0 Al3 rfl) (J9 [(10, 10)] false _ _ rfl (by simp) _ ‹_›) ?_
    rintro _ w18 ⟨rfl, hx18⟩
    have hB1 := hB1.u ((hx16.s0 hx17).s0 hx18)
    have hCS16 := hCS16.s0 hx18
    refine ⟨hCS16, ?_⟩
    refine H1 (F8 J1 rfl rfl ‹_› rfl rfl rfl rfl rfl) ?_
    intro w19 hs19 hx19 hB1
    have hB2 := hB2.q (((hx16.j hx17).j hx18).j hx19) (by simp <;> omega)
    have hCS16 := hCS16.step hx19 (by simp; done)
    refine ⟨hCS16, ?_⟩
    refine Pe G1 rfl ‹_› rfl rfl ?_
    intro w20 hs20 hx20 hB2
    have hC := hC.step ((((hx16.j hx17).j hx18).j hx19).j hx20) (by simp <;> omega)
    have hB1 := hB1.q hx20 (by simp; omega)
    refine Qc (A6 (C5 rfl rfl (A5 I5 ‹_› rfl rfl) rfl (A5 F3 ‹_› rfl rfl) ?_))
    exact ⟨hC, by rw [hE]; rfl⟩
   ·try simp at k0
    rw [Dr1 (by omega)] at hE
    refine Qd (Zc 3 rfl (A4 rfl (fun k1 => ?_) (fun k1 => ?_)))
    ·try simp at k1
     rw [Dr2 (by omega)] at hE
     refine Qa (C6 (S := [b1]) 5 [(0, 0), (0, 3), (1, 1), (1, 2), (1, 4), (2, 5)] mo (by kernel_rfl) ?_)
     intro w21 hx21 hh21
     have hB9 := hB9.u hx21
     have hCS21 := A8 ([b1]) w21
     refine D5 rfl (D4 O3 U3 rfl (by rfl)) ?_
     refine D5 rfl (B8 F3 rfl ‹_› (by simp; omega) rfl rfl) ?_
     refine D9 rfl (B5 Am3 Tryz.underlying268 O3 rfl rfl rfl (by rfl)) ?_
     intro b22 w22 hb22 hs22 hx22 hB22
     have hCS21 := hCS21.s0 hx22
     refine ⟨hCS21, ?_⟩
     refine C4 rfl (C0 Al3 rfl) (J9 [(9, 9)] false _ _ rfl (by simp) _ ‹_›) ?_
     rintro _ w23 ⟨rfl, hx23⟩
     have hB1 := hB1.u ((hx21.s0 hx22).s0 hx23)
     have hCS21 := hCS21.s0 hx23
     refine ⟨hCS21, ?_⟩
     refine H1 (F8 J1 rfl rfl ‹_› rfl rfl rfl rfl rfl) ?_
     intro w24 hs24 hx24 hB1
     have hB2 := hB2.q (((hx21.j hx22).j hx23).j hx24) (by simp <;> omega)
     have hCS21 := hCS21.step hx24 (by simp; done)
     refine ⟨hCS21, ?_⟩
     refine Pe G1 rfl ‹_› rfl rfl ?_
     intro w25 hs25 hx25 hB2
     have hC := hC.step ((((hx21.j hx22).j hx23).j hx24).j hx25) (by simp <;> omega)
     have hB1 := hB1.q hx25 (by simp; omega)
     refine Qc (A6 (C5 rfl rfl (A5 I5 ‹_› rfl rfl) rfl (A5 F3 ‹_› rfl rfl) ?_))
     exact ⟨hC, by rw [hE]; rfl⟩
    ·try simp at k1
     rw [Dr1 (by omega)] at hE
     refine Qd (Zc 3 rfl (A4 rfl (fun k2 => ?_) (fun k2 => ?_)))
     ·try simp at k2
      rw [Dr2 (by omega)] at hE
      refine Qa (C6 (S := [b1]) 5 [(0, 0), (0, 3), (1, 1), (1, 2), (1, 4), (2, 5)] mo (by kernel_rfl) ?_)
      intro w26 hx26 hh26
      have hB9 := hB9.u hx26
      have hCS26 := A8 ([b1]) w26
      refine D5 rfl (D4 O3 U3 rfl (by rfl)) ?_
      refine D5 rfl (B8 F3 rfl ‹_› (by simp; omega) rfl rfl) ?_
      refine D9 rfl (B5 Am3 Tryz.underlying268 O3 rfl rfl rfl (by rfl)) ?_
      intro b27 w27 hb27 hs27 hx27 hB27
      have hCS26 := hCS26.s0 hx27
      refine ⟨hCS26, ?_⟩
      refine C4 rfl (C0 Al3 rfl) (J9 [(13, 13)] false _ _ rfl (by simp) _ ‹_›) ?_
      rintro _ w28 ⟨rfl, hx28⟩
      have hB1 := hB1.u ((hx26.s0 hx27).s0 hx28)
      have hCS26 := hCS26.s0 hx28
      refine ⟨hCS26, ?_⟩
      refine H1 (F8 J1 rfl rfl ‹_› rfl rfl rfl rfl rfl) ?_
      intro w29 hs29 hx29 hB1
      have hB2 := hB2.q (((hx26.j hx27).j hx28).j hx29) (by simp <;> omega)
      have hCS26 := hCS26.step hx29 (by simp; done)
      refine ⟨hCS26, ?_⟩
      refine Pe G1 rfl ‹_› rfl rfl ?_
      intro w30 hs30 hx30 hB2
      have hC := hC.step ((((hx26.j hx27).j hx28).j hx29).j hx30) (by simp <;> omega)
      have hB1 := hB1.q hx30 (by simp; omega)
      refine Qc (A6 (C5 rfl rfl (A5 I5 ‹_› rfl rfl) rfl (A5 F3 ‹_› rfl rfl) ?_))
      exact ⟨hC, by rw [hE]; rfl⟩
     ·try simp at k2
      rw [Dr1 (by omega)] at hE
      refine Qd (Zc 3 rfl (A4 rfl (fun k3 => ?_) (fun k3 => ?_)))
      ·try simp at k3
       rw [Dr2 (by omega)] at hE
       refine Qa (C6 (S := [b1]) 5 [(0, 0), (0, 3), (1, 1), (1, 2), (1, 4), (2, 5)] mo (by kernel_rfl) ?_)
       intro w31 hx31 hh31
       have hB9 := hB9.u hx31
       have hCS31 := A8 ([b1]) w31
       refine D5 rfl (D4 O3 U3 rfl (by rfl)) ?_
       refine D5 rfl (B8 F3 rfl ‹_› (by simp; omega) rfl rfl) ?_
       refine D9 rfl (B5 Am3 Tryz.underlying268 O3 rfl rfl rfl (by rfl)) ?_
       intro b32 w32 hb32 hs32 hx32 hB32
       have hCS31 := hCS31.s0 hx32
       refine ⟨hCS31, ?_⟩
       refine C4 rfl (C0 Al3 rfl) (J9 [(12, 12)] false _ _ rfl (by simp) _ ‹_›) ?_
       rintro _ w33 ⟨rfl, hx33⟩
       have hB1 := hB1.u ((hx31.s0 hx32).s0 hx33)
       have hCS31 := hCS31.s0 hx33
       refine ⟨hCS31, ?_⟩
       refine H1 (F8 J1 rfl rfl ‹_› rfl rfl rfl rfl rfl) ?_
       intro w34 hs34 hx34 hB1
       have hB2 := hB2.q (((hx31.j hx32).j hx33).j hx34) (by simp <;> omega)
       have hCS31 := hCS31.step hx34 (by simp; done)
       refine ⟨hCS31, ?_⟩
       refine Pe G1 rfl ‹_› rfl rfl ?_
       intro w35 hs35 hx35 hB2
       have hC := hC.step ((((hx31.j hx32).j hx33).j hx34).j hx35) (by simp <;> omega)
       have hB1 := hB1.q hx35 (by simp; omega)
       refine Qc (A6 (C5 rfl rfl (A5 I5 ‹_› rfl rfl) rfl (A5 F3 ‹_› rfl rfl) ?_))
       exact ⟨hC, by rw [hE]; rfl⟩
      ·try simp at k3
       rw [Dr1 (by omega)] at hE
       refine Qd (Zc 3 rfl (A4 rfl (fun k4 => ?_) (fun k4 => ?_)))
       ·try simp at k4
        rw [Dr2 (by omega)] at hE
        refine Qa (C6 (S := [b1]) 5 [(0, 0), (0, 3), (1, 1), (1, 2), (1, 4), (2, 5)] mo (by kernel_rfl) ?_)
        intro w36 hx36 hh36
        have hB9 := hB9.u hx36
        have hCS36 := A8 ([b1]) w36
        refine D5 rfl (D4 O3 U3 rfl (by rfl)) ?_
        refine D5 rfl (B8 F3 rfl ‹_› (by simp; omega) rfl rfl) ?_
        refine D9 rfl (B5 Am3 Tryz.underlying268 O3 rfl rfl rfl (by rfl)) ?_
        intro b37 w37 hb37 hs37 hx37 hB37
        have hCS36 := hCS36.s0 hx37
        refine ⟨hCS36, ?_⟩
        refine C4 rfl (C0 Al3 rfl) (J9 [(11, 11)] false _ _ rfl (by simp) _ ‹_›) ?_
        rintro _ w38 ⟨rfl, hx38⟩
        have hB1 := hB1.u ((hx36.s0 hx37).s0 hx38)
        have hCS36 := hCS36.s0 hx38
        refine ⟨hCS36, ?_⟩
        refine H1 (F8 J1 rfl rfl ‹_› rfl rfl rfl rfl rfl) ?_
        intro w39 hs39 hx39 hB1
        have hB2 := hB2.q (((hx36.j hx37).j hx38).j hx39) (by simp <;> omega)
        have hCS36 := hCS36.step hx39 (by simp; done)
        refine ⟨hCS36, ?_⟩
        refine Pe G1 rfl ‹_› rfl rfl ?_
        intro w40 hs40 hx40 hB2
        have hC := hC.step ((((hx36.j hx37).j hx38).j hx39).j hx40) (by simp <;> omega)
        have hB1 := hB1.q hx40 (by simp; omega)
        refine Qc (A6 (C5 rfl rfl (A5 I5 ‹_› rfl rfl) rfl (A5 F3 ‹_› rfl rfl) ?_))
        exact ⟨hC, by rw [hE]; rfl⟩
       ·try simp at k4
        rw [Dr1 (by omega)] at hE
        refine Qd (Z 3 rfl (B7 (d := 90) rfl (fun m0 => ?_) (fun m0 => ?_)))
        ·try simp at m0
         rw [Dr2 (by omega)] at hE
         refine Qk rfl (Qk rfl (Zc 2 rfl (E1 rfl (Qa (C6 (S := [b1]) 6 [(0, 0), (0, 1), (0, 2), (0, 4), (1, 3), (1, 5), (2, 6)] mo (by kernel_rfl) ?_)))))
         intro w41 hx41 hh41
         have hB6 := hB6.u hx41
         have hB9 := hB9.u hx41
         have hCS41 := A8 ([b1]) w41
         refine Z 3 rfl (D5 rfl (B8 F3 rfl ‹_› (by simp; omega) rfl rfl) ?_)
         refine C4 rfl (C0 Al3 rfl) (J9 digs _ _ _ rfl (by decide) _ ‹_›) ?_
         rintro _ w42 ⟨rfl, hx42⟩
         have hB1 := hB1.u (hx41.s0 hx42)
         have hCS41 := hCS41.s0 hx42
         refine ⟨hCS41, ?_⟩
         refine H1 (F8 J1 rfl rfl ‹_› rfl rfl rfl rfl rfl) ?_
         intro w43 hs43 hx43 hB1
         have hB2 := hB2.q ((hx41.j hx42).j hx43) (by simp <;> omega)
         have hCS41 := hCS41.step hx43 (by simp; done)
         refine ⟨hCS41, ?_⟩
         refine Pe G1 rfl ‹_› rfl rfl ?_
         intro w44 hs44 hx44 hB2
         have hC := hC.step (((hx41.j hx42).j hx43).j hx44) (by simp <;> omega)
         have hB1 := hB1.q hx44 (by simp; omega)
         refine Qc (A6 (C5 rfl rfl (A5 I5 ‹_› rfl rfl) rfl (A5 F3 ‹_› rfl rfl) ?_))
         exact ⟨hC, by rw [hE]; rfl⟩
        ·try simp at m0
         refine Qu rfl (Z 1 rfl (Qu rfl (Zc 3 rfl (A4 rfl (fun n0 => ?_) (fun n0 => ?_)))))
         ·try simp at n0
          rw [Dr2 (by omega)] at hE
          refine Qa (C6 (S := [b1]) 6 [(0, 0), (0, 1), (0, 2), (0, 4), (1, 3), (1, 5), (2, 6)] mo (by kernel_rfl) ?_)
          intro w45 hx45 hh45
          have hB6 := hB6.u hx45
          have hB9 := hB9.u hx45
          have hCS45 := A8 ([b1]) w45
          refine Z 3 rfl (D5 rfl (B8 F3 rfl ‹_› (by simp; omega) rfl rfl) ?_)
          refine C4 rfl (C0 Al3 rfl) (J9 digs _ _ _ rfl (by decide) _ ‹_›) ?_
          rintro _ w46 ⟨rfl, hx46⟩
          have hB1 := hB1.u (hx45.s0 hx46)
          have hCS45 := hCS45.s0 hx46
          refine ⟨hCS45, ?_⟩
          refine H1 (F8 J1 rfl rfl ‹_› rfl rfl rfl rfl rfl) ?_
          intro w47 hs47 hx47 hB1
          have hB2 := hB2.q ((hx45.j hx46).j hx47) (by simp <;> omega)
          have hCS45 := hCS45.step hx47 (by simp; done)
          refine ⟨hCS45, ?_⟩
          refine Pe G1 rfl ‹_› rfl rfl ?_
          intro w48 hs48 hx48 hB2
          have hC := hC.step (((hx45.j hx46).j hx47).j hx48) (by simp <;> omega)
          have hB1 := hB1.q hx48 (by simp; omega)
          refine Qc (A6 (C5 rfl rfl (A5 I5 ‹_› rfl rfl) rfl (A5 F3 ‹_› rfl rfl) ?_))
          exact ⟨hC, by rw [hE]; rfl⟩
         ·try simp at n0
          rw [Dr1 (by omega)] at hE
          refine Qd (Z 3 rfl (B7 (d := 102) rfl (fun m1 => ?_) (fun m1 => ?_)))
          ·try simp at m1
           rw [Dr2 (by omega)] at hE
           refine Qk rfl (Qk rfl (Zc 2 rfl (E1 rfl (Qa (C6 (S := [b1]) 6 [(0, 0), (0, 1), (0, 2), (0, 4), (1, 3), (1, 5), (2, 6)] mo (by kernel_rfl) ?_)))))
           intro w49 hx49 hh49
           have hB7 := hB7.u hx49
           have hB9 := hB9.u hx49
           have hCS49 := A8 ([b1]) w49
           refine Z 3 rfl (D5 rfl (B8 F3 rfl ‹_› (by simp; omega) rfl rfl) ?_)
           refine C4 rfl (C0 Al3 rfl) (J9 wrds _ _ _ rfl (by decide) _ ‹_›) ?_
           rintro _ w50 ⟨rfl, hx50⟩
           have hB1 := hB1.u (hx49.s0 hx50)
           have hCS49 := hCS49.s0 hx50
           refine ⟨hCS49, ?_⟩
           refine H1 (F8 J1 rfl rfl ‹_› rfl rfl rfl rfl rfl) ?_
           intro w51 hs51 hx51 hB1
           have hB2 := hB2.q ((hx49.j hx50).j hx51) (by simp <;> omega)
           have hCS49 := hCS49.step hx51 (by simp; done)
           refine ⟨hCS49, ?_⟩
           refine Pe G1 rfl ‹_› rfl rfl ?_
           intro w52 hs52 hx52 hB2
           have hC := hC.step (((hx49.j hx50).j hx51).j hx52) (by simp <;> omega)
           have hB1 := hB1.q hx52 (by simp; omega)
           refine Qc (A6 (C5 rfl rfl (A5 I5 ‹_› rfl rfl) rfl (A5 F3 ‹_› rfl rfl) ?_))
           exact ⟨hC, by rw [hE]; rfl⟩
          ·try simp at m1
           refine Qu rfl (Z 1 rfl (Qu rfl (Zc 3 rfl (A4 rfl (fun n1 => ?_) (fun n1 => ?_)))))
           ·try simp at n1
            rw [Dr2 (by omega)] at hE
            refine Qa (C6 (S := [b1]) 6 [(0, 0), (0, 1), (0, 2), (0, 4), (1, 3), (1, 5), (2, 6)] mo (by kernel_rfl) ?_)
            intro w53 hx53 hh53
            have hB7 := hB7.u hx53
            have hB9 := hB9.u hx53
            have hCS53 := A8 ([b1]) w53
            refine Z 3 rfl (D5 rfl (B8 F3 rfl ‹_› (by simp; omega) rfl rfl) ?_)
            refine C4 rfl (C0 Al3 rfl) (J9 wrds _ _ _ rfl (by decide) _ ‹_›) ?_
            rintro _ w54 ⟨rfl, hx54⟩
            have hB1 := hB1.u (hx53.s0 hx54)
            have hCS53 := hCS53.s0 hx54
            refine ⟨hCS53, ?_⟩
            refine H1 (F8 J1 rfl rfl ‹_› rfl rfl rfl rfl rfl) ?_
            intro w55 hs55 hx55 hB1
            have hB2 := hB2.q ((hx53.j hx54).j hx55) (by simp <;> omega)
            have hCS53 := hCS53.step hx55 (by simp; done)
            refine ⟨hCS53, ?_⟩
            refine Pe G1 rfl ‹_› rfl rfl ?_
            intro w56 hs56 hx56 hB2
            have hC := hC.step (((hx53.j hx54).j hx55).j hx56) (by simp <;> omega)
            have hB1 := hB1.q hx56 (by simp; omega)
            refine Qc (A6 (C5 rfl rfl (A5 I5 ‹_› rfl rfl) rfl (A5 F3 ‹_› rfl rfl) ?_))
            exact ⟨hC, by rw [hE]; rfl⟩
           ·try simp at n1
            rw [Dr1 (by omega)] at hE
            refine Qd (Z 3 rfl (B7 (d := 114) rfl (fun m2 => ?_) (fun m2 => ?_)))
            ·try simp at m2
             rw [Dr2 (by omega)] at hE
             refine Qk rfl (Qk rfl (Zc 2 rfl (E1 rfl (Qa (C6 (S := [b1]) 6 [(0, 0), (0, 1), (0, 2), (0, 4), (1, 3), (1, 5), (2, 6)] mo (by kernel_rfl) ?_)))))
             intro w57 hx57 hh57
             have hB8 := hB8.u hx57
             have hB9 := hB9.u hx57
             have hCS57 := A8 ([b1]) w57
             refine Z 3 rfl (D5 rfl (B8 F3 rfl ‹_› (by simp; omega) rfl rfl) ?_)
             refine C4 rfl (C0 Al3 rfl) (J9 spcs _ _ _ rfl (by decide) _ ‹_›) ?_
             rintro _ w58 ⟨rfl, hx58⟩
             have hB1 := hB1.u (hx57.s0 hx58)
             have hCS57 := hCS57.s0 hx58
             refine ⟨hCS57, ?_⟩
             refine H1 (F8 J1 rfl rfl ‹_› rfl rfl rfl rfl rfl) ?_
             intro w59 hs59 hx59 hB1
             have hB2 := hB2.q ((hx57.j hx58).j hx59) (by simp <;> omega)
             have hCS57 := hCS57.step hx59 (by simp; done)
             refine ⟨hCS57, ?_⟩
             refine Pe G1 rfl ‹_› rfl rfl ?_
             intro w60 hs60 hx60 hB2
             have hC := hC.step (((hx57.j hx58).j hx59).j hx60) (by simp <;> omega)
             have hB1 := hB1.q hx60 (by simp; omega)
             refine Qc (A6 (C5 rfl rfl (A5 I5 ‹_› rfl rfl) rfl (A5 F3 ‹_› rfl rfl) ?_))
             exact ⟨hC, by rw [hE]; rfl⟩
            ·try simp at m2
             refine Qu rfl (Z 1 rfl (Qu rfl (Zc 3 rfl (A4 rfl (fun n2 => ?_) (fun n2 => ?_)))))
             ·try simp at n2
              rw [Dr2 (by omega)] at hE
              refine Qa (C6 (S := [b1]) 6 [(0, 0), (0, 1), (0, 2), (0, 4), (1, 3), (1, 5), (2, 6)] mo (by kernel_rfl) ?_)
              intro w61 hx61 hh61
              have hB8 := hB8.u hx61
              have hB9 := hB9.u hx61
              have hCS61 := A8 ([b1]) w61
              refine Z 3 rfl (D5 rfl (B8 F3 rfl ‹_› (by simp; omega) rfl rfl) ?_)
              refine C4 rfl (C0 Al3 rfl) (J9 spcs _ _ _ rfl (by decide) _ ‹_›) ?_
              rintro _ w62 ⟨rfl, hx62⟩
              have hB1 := hB1.u (hx61.s0 hx62)
              have hCS61 := hCS61.s0 hx62
              refine ⟨hCS61, ?_⟩
              refine H1 (F8 J1 rfl rfl ‹_› rfl rfl rfl rfl rfl) ?_
              intro w63 hs63 hx63 hB1
              have hB2 := hB2.q ((hx61.j hx62).j hx63) (by simp <;> omega)
              have hCS61 := hCS61.step hx63 (by simp; done)
              refine ⟨hCS61, ?_⟩
              refine Pe G1 rfl ‹_› rfl rfl ?_
              intro w64 hs64 hx64 hB2
              have hC := hC.step (((hx61.j hx62).j hx63).j hx64) (by simp <;> omega)
              have hB1 := hB1.q hx64 (by simp; omega)
              refine Qc (A6 (C5 rfl rfl (A5 I5 ‹_› rfl rfl) rfl (A5 F3 ‹_› rfl rfl) ?_))
              exact ⟨hC, by rw [hE]; rfl⟩
             ·try simp at n2
              rw [Dr1 (by omega)] at hE
              refine Qd (Zc 3 rfl (A4 rfl (fun x1 => ?_) (fun x1 => ?_)))
              ·try simp at x1
               rw [Dr2 (by omega)] at hE
               refine Qd (Zc 1 rfl (Qa (Qd (Z 1 rfl (Ad rfl rfl (by omega) (Zc 1 rfl (B0 (D7 (σ := Nat × Nat) (fun (j, n) => [(0, .string s), (1, .int .i64 at_), (4, .pointer (some ⟨b1, 0, none⟩)), (5, .pointer (some ⟨b2, 0, none⟩)), (12, .int .i64 n), (13, .int .i64 ((at_ + 2 + j : Nat) : Int))]) (fun (j, n) wr => Chg [] w wr ∧ Blk wr b1 (C1 0) 70 ∧ Blk wr b2 [.int .i64 0, .int .i64 0] 232 ∧ Bi1 (C2 s) (at_ + 2 + j) (2 - j) n = Bi1 (C2 s) (at_ + 2) 2 0 ∧ ((j = 0 ∧ n = 0) ∨ (j = 1 ∧ n ≤ 15) ∨ (j = 2 ∧ n ≤ 255))) (fun (j, n) wr => 2 - j) (0, 0) ⟨rfl, rfl, rfl, rfl, rfl, (F9 rfl (by omega)), trivial⟩ ?_ ?_))))))))
               ·exact ⟨hC, by rw [C3]; exact hB1, hB2, rfl, .inl ⟨rfl, rfl⟩⟩
               rintro ⟨j, n⟩ w9 ⟨hC, hB1, hB2, hM, hj⟩
               refine Qa (Qd (Z 2 rfl (Ad rfl rfl (by omega) (Zc 1 rfl (A4 rfl (fun y1 => ?_) (fun y1 => ?_))))))
               ·try simp at y1
                have hmn : ((min (at_ + 2 + j) (C2 s).length : Nat) : Int) = min ((at_ + 2 + j : Nat) : Int) (s.size : Int) := by omega
                rw [show 2 - j = (1 - j) + 1 by omega, Bi1] at hM
                refine A7 (Qa (B0 (Qa (Qd (Z 2 rfl (C7 rfl (F4 Tryz.underlying9 rfl) (Z 2 rfl (B7 (d := 138) rfl (fun y2 => ?_) (fun y2 => ?_)))))))))
                ·try simp at y2
                 rw [Dr2 (by omega)] at hM
                 refine Qk rfl (Qk rfl (Qk rfl (Qk rfl (Qk rfl (Zc 1 rfl (E1 rfl (Qd (C7 rfl (D4 K5 An8 rfl (by rfl)) ?_))))))))
                 refine Z 2 rfl (C7 rfl (F4 Tryz.underlying9 rfl) (C7 rfl (V7 rfl rfl) (C7 rfl (A9 I7 K0 rfl (by rfl)) ?_)))
                 refine Pe J1 rfl ‹_› rfl rfl ?_
                 intro w65 hs65 hx65 hB1
                 have hB2 := hB2.q hx65 (by simp; omega)
                 refine Pe G1 rfl ‹_› rfl rfl ?_
                 intro w66 hs66 hx66 hB2
                 have hC := hC.step (hx65.j hx66) (by simp <;> omega)
                 have hB1 := hB1.q hx66 (by simp; omega)
                 refine Qc (A6 (C5 rfl rfl (A5 I5 ‹_› rfl rfl) rfl (A5 F3 ‹_› rfl rfl) ?_))
                 exact ⟨hC, by rw [hE, ← hM]; simp only []; rw [C3, hmn]; rfl⟩
                ·try simp at y2
                 have hin2 : at_ + 2 + j < s.size := by omega
                 obtain ⟨u9, hu3, hu4⟩ := I4 s (at_ + 2 + j) hin2
                 have hb2 := hlt _ (H4 (C2 s) 0 (at_ + 2 + j) (by omega))
                 have hxr := Bm0 _ hb2
                 rw [Dr1 (by omega)] at hM
                 refine Qu rfl (Z 1 rfl (Qu rfl (Z 1 rfl (Qu rfl (C7 rfl (Does.to (E8 Tryz.underlying9 rfl rfl (by omega) (by exact hu3)) (I9 (show ((u9.toNat : Nat) : Int) = (((C2 s).getD (at_ + 2 + j) 0 : Nat) : Int) by rw [hu4]))) ?_)))))
                 refine Qu rfl (Ca fb197 rfl (Co2 ((C2 s).getD (at_ + 2 + j) 0) hb2 _) ?_)
                 rintro _ w67 ⟨rfl, hx67⟩
                 have hC := hC.s0 hx67
                 have hB1 := hB1.u hx67
                 have hB2 := hB2.u hx67
                 refine Qu rfl (Zc 2 rfl (A4 rfl (fun y3 => ?_) (fun y3 => ?_)))
                 ·rw [cmpB_lss] at y3
                  rw [Dr2 y3] at hM
                  refine Qd (C7 rfl (D4 K5 An8 rfl (by rfl)) ?_)
                  refine Z 2 rfl (C7 rfl (F4 Tryz.underlying9 rfl) (C7 rfl (V7 rfl rfl) (C7 rfl (A9 I7 K0 rfl (by rfl)) ?_)))
                  refine Pe J1 rfl ‹_› rfl rfl ?_
                  intro w68 hs68 hx68 hB1
                  have hB2 := hB2.q hx68 (by simp; omega)
                  refine Pe G1 rfl ‹_› rfl rfl ?_
                  intro w69 hs69 hx69 hB2
                  have hC := hC.step (hx68.j hx69) (by simp <;> omega)
                  have hB1 := hB1.q hx69 (by simp; omega)
                  refine Qc (A6 (C5 rfl rfl (A5 I5 ‹_› rfl rfl) rfl (A5 F3 ‹_› rfl rfl) ?_))
                  exact ⟨hC, by rw [hE, ← hM]; simp only []; rw [C3, hmn]; rfl⟩
                 ·rw [cmpB_lssF] at y3
                  rw [Dr1 (by omega)] at hM
                  refine A7 (Qb (Z 1 rfl (C7 rfl (Aj8 rfl rfl (by omega)) (Z 2 rfl (C7 rfl (Does.to (E8 Tryz.underlying9 rfl rfl (by omega) (by exact hu3)) (I9 (show ((u9.toNat : Nat) : Int) = (((C2 s).getD (at_ + 2 + j) 0 : Nat) : Int) by rw [hu4]))) ?_)))))
                  refine Ca fb197 rfl (Co2 ((C2 s).getD (at_ + 2 + j) 0) hb2 _) ?_
                  rintro _ w70 ⟨rfl, hx70⟩
                  have hC := hC.s0 hx70
                  have hB1 := hB1.u hx70
                  have hB2 := hB2.u hx70
                  refine Ad rfl rfl (by omega) (Zc 1 rfl (Qb (Z 1 rfl (Ad rfl rfl (by omega) (Zc 1 rfl ⟨(j + 1, 16 * n + (Aq4 ((C2 s).getD (at_ + 2 + j) 0)).toNat), ⟨rfl, rfl, rfl, rfl, (F9 rfl (by omega)), (F9 rfl (by omega)), trivial⟩, ?_, ?_⟩)))))
                  refine ⟨hC, hB1, hB2, ?_, by omega⟩
                  rw [show 2 - (j + 1) = 1 - j by omega, show at_ + 2 + (j + 1) = at_ + 2 + j + 1 by omega]
                  exact hM
                  show 2 - (j + 1) < 2 - j
                  omega
               ·try simp at y1
                have hj2 : j = 2 := by omega
                subst hj2
                rw [show 2 - 2 = 0 from rfl, Bi1] at hM
                rw [← hM] at hE
                refine Xb (Qd (Z 2 rfl (C7 rfl (D4 O3 U3 rfl (by rfl)) ?_)))
                refine B4 rfl (B5 Am3 Tryz.underlying268 O3 rfl rfl rfl (by rfl)) ?_
                intro b71 w71 hb71 hs71 hx71 hB71
                refine Ca Al3 rfl (J9 [((n : Int), (n : Int))] false _ _ rfl (by simp) _ ‹_›) ?_
                rintro _ w72 ⟨rfl, hx72⟩
                have hB1 := hB1.u (hx71.s0 hx72)
                refine Z 1 rfl (Ad rfl rfl (by omega) (C7 rfl (A9 I7 K0 rfl (by rfl)) ?_))
                refine Pe J1 rfl ‹_› rfl rfl ?_
                intro w73 hs73 hx73 hB1
                have hB2 := hB2.q ((hx71.j hx72).j hx73) (by simp <;> omega)
                refine Pe G1 rfl ‹_› rfl rfl ?_
                intro w74 hs74 hx74 hB2
                have hC := hC.step (((hx71.j hx72).j hx73).j hx74) (by simp <;> omega)
                have hB1 := hB1.q hx74 (by simp; omega)
                refine Qc (A6 (C5 rfl rfl (A5 I5 ‹_› rfl rfl) rfl (A5 F3 ‹_› rfl rfl) ?_))
                exact ⟨hC, by rw [hE]; rfl⟩
              ·try simp at x1
               rw [Dr1 (by omega)] at hE
               refine Qd (Z 1 rfl (Ca fb171 rfl (rin_c unT (by decide) c hb _) ?_))
               rintro _ w75 ⟨rfl, hx75⟩
               have hC := hC.s0 hx75
               have hB1 := hB1.u hx75
               have hB2 := hB2.u hx75
               refine Zc 1 rfl (A4 rfl (fun z1 => ?_) (fun z1 => ?_))
               ·rw [Ds5] at z1
                rw [Dr2 z1] at hE
                refine Qd (C7 rfl (D4 K5 An8 rfl (by rfl)) ?_)
                refine Z 1 rfl (C7 rfl (A9 I7 K0 rfl (by rfl)) ?_)
                refine Pe J1 rfl ‹_› rfl rfl ?_
                intro w76 hs76 hx76 hB1
                have hB2 := hB2.q hx76 (by simp; omega)
                refine Pe G1 rfl ‹_› rfl rfl ?_
                intro w77 hs77 hx77 hB2
                have hC := hC.step (hx76.j hx77) (by simp <;> omega)
                have hB1 := hB1.q hx77 (by simp; omega)
                refine Qc (A6 (C5 rfl rfl (A5 I5 ‹_› rfl rfl) rfl (A5 F3 ‹_› rfl rfl) ?_))
                exact ⟨hC, by rw [hE, C3]; rfl⟩
               ·rw [decide_eq_false_iff_not] at z1
                rw [Dr1 z1] at hE
                refine A7 (Qd (C7 rfl (D4 K5 An8 rfl (by rfl)) ?_))
                refine Z 1 rfl (Ad rfl rfl (by omega) (C7 rfl (A9 I7 K0 rfl (by rfl)) ?_))
                refine Pe J1 rfl ‹_› rfl rfl ?_
                intro w78 hs78 hx78 hB1
                have hB2 := hB2.q hx78 (by simp; omega)
                refine Pe G1 rfl ‹_› rfl rfl ?_
                intro w79 hs79 hx79 hB2
                have hC := hC.step (hx78.j hx79) (by simp <;> omega)
                have hB1 := hB1.q hx79 (by simp; omega)
                refine Qc (A6 (C5 rfl rfl (A5 I5 ‹_› rfl rfl) rfl (A5 F3 ‹_› rfl rfl) ?_))
                exact ⟨hC, by rw [hE, C3]; rfl⟩
def Cg5 (s : Nat) (x : Int × Int) (b : Nat) : Int × Int := if s.testBit b then (x.1 + 1, (b : Int)) else x
def At7 (s k : Nat) : Int × Int := (List.range k).foldl (Cg5 s) (0, -1)
def Ag7 (s : Nat) : Int := if (At7 s 256).1 = 1 then (At7 s 256).2 else -1
theorem Ac7 (s k : Nat) : At7 s (k + 1) = Cg5 s (At7 s k) k := by unfold At7; rw [Dt4, Dt0]; rfl
theorem Am8 (s : Nat) : ∀ k, 0 ≤ (At7 s k).1 ∧ (At7 s k).1 ≤ k ∧ -1 ≤ (At7 s k).2 ∧ (At7 s k).2 ≤ (k : Int) - 1
 | 0 => by show (0 : Int) ≤ 0 ∧ (0 : Int) ≤ ((0 : Nat) : Int) ∧ (-1 : Int) ≤ -1 ∧ (-1 : Int) ≤ ((0 : Nat) : Int) - 1; omega
 | k + 1 => by
  have := Am8 s k
  rw [Ac7]
  unfold Cg5
  split
  ·show 0 ≤ (At7 s k).1 + 1 ∧ (At7 s k).1 + 1 ≤ ((k + 1 : Nat) : Int) ∧ (-1 : Int) ≤ (k : Int) ∧ (k : Int) ≤ ((k + 1 : Nat) : Int) - 1; omega
  ·omega
theorem Bc0 (s : Nat) : -1 ≤ Ag7 s ∧ Ag7 s ≤ 255 := by
 have := Am8 s 256
 unfold Ag7
 split <;> omega
theorem Df0 (s : Nat) (w : World) : Calls P 199 #[.agg (C1 s).toArray] w (Ret fun u w' => u = .int .i64 (Ag7 s) ∧ Chg [] w w') := by
 have hC := A8 [] w
 refine D3 Tryz.func199 rfl rfl (Qd (B4 rfl (E0 rfl rfl) ?_))
 intro b1 w1 hb1 hs1 hx1 hB1
 have hC := hC.s0 hx1
 refine Zc 1 rfl (Qd (Zc 2 rfl (Qa (Qd (Zc 1 rfl (B0 (D7 (σ := Nat) (fun k => [(1, .pointer (some ⟨b1, 0, none⟩)), (3, .int .i64 (At7 s k).1), (4, .int .i64 (At7 s k).2), (5, .int .i64 k)]) (fun k wr => Chg [] w wr ∧ Blk wr b1 (C1 s) 70 ∧ k ≤ 256) (fun k wr => 256 - k) 0 (sb rfl) ?_ ?_)))))))
 ·exact ⟨hC, hB1, by omega⟩
 rintro k w9 ⟨hC, hB1, hk⟩
 have hfr := Am8 s k
 refine Qa (Qd (Zc 2 rfl (A4 rfl (fun h1 => ?_) (fun h1 => ?_))))
 ·try simp at h1
  have hk2 : k < 256 := by omega
  refine A7 (Qa (B0 (Qd (La I5 rfl ‹_› rfl rfl ?_))))
  refine Z 1 rfl (Ca fb52 rfl (rhas_c s k hk2 _) ?_)
  rintro _ w2 ⟨rfl, hx2⟩
  have hC := hC.s0 hx2
  have hB1 := hB1.u hx2
  refine Qc (A4 rfl (fun h2 => ?_) (fun h2 => ?_))
  ·refine Qd (Z 1 rfl (Ad rfl rfl (by omega) (Zc 1 rfl (Qb (Zc 2 rfl (Qb (Z 1 rfl (Ad rfl rfl (by omega) (Zc 1 rfl ⟨k + 1, ⟨rfl, (F9 rfl (by rw [Ac7]; unfold Cg5; rw [Dr2 h2])), (F9 rfl (by rw [Ac7]; unfold Cg5; rw [Dr2 h2])), rfl, trivial⟩, ?_, ?_⟩)))))))))
   exact ⟨hC, hB1, by omega⟩
   omega
  ·refine A7 (Qb (Z 1 rfl (Ad rfl rfl (by omega) (Zc 1 rfl ⟨k + 1, ⟨rfl, (F9 rfl (by rw [Ac7]; unfold Cg5; rw [Dr1 (by rw [h2]; simp)])), (F9 rfl (by rw [Ac7]; unfold Cg5; rw [Dr1 (by rw [h2]; simp)])), rfl, trivial⟩, ?_, ?_⟩))))
   exact ⟨hC, hB1, by omega⟩
   omega
 ·try simp at h1
  have hkk : k = 256 := by omega
  subst hkk
  refine Xb (Qa (Qd (Zc 2 rfl (A4 rfl (fun h3 => ?_) (fun h3 => ?_)))))
  ·try simp at h3
   exact Qd (Zc 1 rfl (A6 (B1 rfl rfl ⟨I9 (by unfold Ag7; rw [Dr1 h3]), hC⟩)))
  ·try simp at h3
   exact A7 (Qd (Zc 2 rfl (A6 (B1 rfl rfl ⟨I9 (by unfold Ag7; rw [Dr2 (by simpa using h3)]), hC⟩))))
def clsT : ByteArray := ⟨#[91, 93, 45, 94]⟩
def Ae8 (L : List Nat) (at_ : Nat) : Nat × Int × Int :=
 if L.length ≤ at_ ∨ L.getD at_ 0 ∈ C2 clsT then (0, ((min at_ L.length : Nat) : Int), 4)
 else if L.getD at_ 0 = 92 then Dm3 L at_
 else (smS [((L.getD at_ 0 : Nat), (L.getD at_ 0 : Nat))] false, (at_ : Int) + 1, 0)
theorem Df3 (s : ByteArray) (hs : s.size ≤ 1000) (at_ : Nat) (hat : at_ ≤ 2000) (w : World) : Calls P 198 #[.string s, .int .i64 (at_ : Nat)] w (Ret (EscR (Ae8 (C2 s) at_) w)) := by
 have hC := A8 [] w
 have hsl := E7 s
 have hlt := W5 s
 have hmn : ((min at_ (C2 s).length : Nat) : Int) = min ((at_ : Nat) : Int) (s.size : Int) := by omega
 refine D3 Tryz.func198 rfl rfl (Qd (B4 rfl (B6 K5 rfl) ?_))
 intro b1 w1 hb1 hs1 hx1 hB1
 refine B4 rfl (B6 I7 rfl) ?_
 intro b2 w2 hb2 hs2 hx2 hB2
 have hC := hC.s0 (hx1.s0 hx2)
 have hB1 := hB1.u hx2
 refine Qc (Qa (Qd (Z 2 rfl (C7 rfl (F4 Tryz.underlying9 rfl) (Z 2 rfl (B7 (d := 10) rfl (fun h1 => ?_) (fun h1 => ?_)))))))
 ·try simp at h1
  refine Qk rfl (Qk rfl (Qk rfl (Qk rfl (Zc 1 rfl (E1 rfl (Qd (C7 rfl (D4 K5 An8 rfl (by rfl)) ?_)))))))
  refine Z 2 rfl (C7 rfl (F4 Tryz.underlying9 rfl) (C7 rfl (V7 rfl rfl) (C7 rfl (A9 I7 K0 rfl (by rfl)) ?_)))
  refine Pe J1 rfl ‹_› rfl rfl ?_
  intro w3 hs3 hx3 hB1
  have hB2 := hB2.q hx3 (by simp; omega)
  refine Pe G1 rfl ‹_› rfl rfl ?_
  intro w4 hs4 hx4 hB2
  have hC := hC.step (hx3.j hx4) (by simp <;> omega)
  have hB1 := hB1.q hx4 (by simp; omega)
  refine Qc (A6 (C5 rfl rfl (A5 I5 ‹_› rfl rfl) rfl (A5 F3 ‹_› rfl rfl) ?_))
  exact ⟨hC, by unfold Ae8; rw [Dr2 (.inl (by omega)), C3, hmn]; rfl⟩
 ·try simp at h1
  have hin : at_ < s.size := by omega
  obtain ⟨u8, hu, hu2⟩ := I4 s at_ hin
  have hb := hlt _ (H4 (C2 s) 0 at_ (by omega))
  refine Qu rfl (Z 1 rfl (Qu rfl (Z 1 rfl (Qu rfl (C7 rfl (Does.to (E8 Tryz.underlying9 rfl rfl (by omega) (by exact hu)) (I9 (show ((u8.toNat : Nat) : Int) = (((C2 s).getD at_ 0 : Nat) : Int) by rw [hu2]))) ?_)))))
  refine Qu rfl (Ca fb171 rfl (rin_c clsT (by decide) ((C2 s).getD at_ 0) hb _) ?_)
  rintro _ w5 ⟨rfl, hx5⟩
  have hC := hC.s0 hx5
  have hB1 := hB1.u hx5
  have hB2 := hB2.u hx5
  refine Zc 1 rfl (A4 rfl (fun h2 => ?_) (fun h2 => ?_))
  ·rw [Ds5] at h2
   refine Qd (C7 rfl (D4 K5 An8 rfl (by rfl)) ?_)
   refine Z 2 rfl (C7 rfl (F4 Tryz.underlying9 rfl) (C7 rfl (V7 rfl rfl) (C7 rfl (A9 I7 K0 rfl (by rfl)) ?_)))
   refine Pe J1 rfl ‹_› rfl rfl ?_
   intro w6 hs6 hx6 hB1
   have hB2 := hB2.q hx6 (by simp; omega)
   refine Pe G1 rfl ‹_› rfl rfl ?_
   intro w7 hs7 hx7 hB2
   have hC := hC.step (hx6.j hx7) (by simp <;> omega)
   have hB1 := hB1.q hx7 (by simp; omega)
   refine Qc (A6 (C5 rfl rfl (A5 I5 ‹_› rfl rfl) rfl (A5 F3 ‹_› rfl rfl) ?_))
   exact ⟨hC, by unfold Ae8; rw [Dr2 (.inr h2), C3, hmn]; rfl⟩
  ·rw [decide_eq_false_iff_not] at h2
   have hE : Ae8 (C2 s) at_ = if (C2 s).getD at_ 0 = 92 then Dm3 (C2 s) at_ else (smS [(((C2 s).getD at_ 0 : Nat), ((C2 s).getD at_ 0 : Nat))] false, (at_ : Int) + 1, 0) := by
    unfold Ae8
    rw [Dr1 (fun h => h.elim (by omega) h2)]
   refine A7 (Qa (Qd (Z 2 rfl (C7 rfl (Does.to (E8 Tryz.underlying9 rfl rfl (by omega) (by exact hu)) (I9 (show ((u8.toNat : Nat) : Int) = (((C2 s).getD at_ 0 : Nat) : Int) by rw [hu2]))) ?_))))
   refine Zc 1 rfl (A4 rfl (fun h3 => ?_) (fun h3 => ?_))
   ·rw [cmpB_eql] at h3
    rw [Dr2 (by omega)] at hE
    refine Qd (Z 2 rfl (Ca fb168 rfl (resc_c s hs at_ hat _) ?_))
    rintro _ w8 ⟨hx8, rfl⟩
    have hB1 := hB1.u hx8
    refine Z 2 rfl (Pe J1 rfl ‹_› rfl rfl ?_)
    intro w9 hs9 hx9 hB1
    have hB2 := hB2.q (hx8.j hx9) (by simp <;> omega)
    refine Pe G1 rfl ‹_› rfl rfl ?_
    intro w10 hs10 hx10 hB2
    have hC := hC.step ((hx8.j hx9).j hx10) (by simp <;> omega)
    have hB1 := hB1.q hx10 (by simp; omega)
    refine Qc (A6 (C5 rfl rfl (A5 I5 ‹_› rfl rfl) rfl (A5 F3 ‹_› rfl rfl) ?_))
    exact ⟨hC, by rw [hE]; rfl⟩
   ·rw [cmpB_eqlF] at h3
    rw [Dr1 (by omega)] at hE
    refine A7 (Qa (C6 (S := [b1]) 15 [(0, 0), (0, 1), (0, 2), (0, 3), (0, 4), (0, 5), (0, 6), (0, 7), (0, 8), (0, 11), (0, 12), (0, 13), (1, 9), (1, 10), (1, 14), (2, 15)] mo (by kernel_rfl) ?_))
    intro w11 hx11 hh11
    have hCS11 := A8 ([b1]) w11
    refine Z 2 rfl (D5 rfl (Does.to (E8 Tryz.underlying9 rfl rfl (by omega) (by exact hu)) (I9 (show ((u8.toNat : Nat) : Int) = (((C2 s).getD at_ 0 : Nat) : Int) by rw [hu2]))) ?_)
    refine D5 rfl (H0 kn5 Tryz.underlying3 rfl (by exact I2 (by omega))) ?_
    refine Z 2 rfl (D5 rfl (Does.to (E8 Tryz.underlying9 rfl rfl (by omega) (by exact hu)) (I9 (show ((u8.toNat : Nat) : Int) = (((C2 s).getD at_ 0 : Nat) : Int) by rw [hu2]))) ?_)
    refine D5 rfl (H0 kn5 Tryz.underlying3 rfl (by exact I2 (by omega))) ?_
    refine D5 rfl (D4 O3 U3 rfl (by rfl)) ?_
    refine Z 1 rfl (Ad rfl rfl (by omega) (D5 rfl (A9 I7 K0 rfl (by rfl)) ?_))
    refine D9 rfl (B5 Am3 Tryz.underlying268 O3 rfl rfl rfl (by rfl)) ?_
    intro b12 w12 hb12 hs12 hx12 hB12
    have hCS11 := hCS11.s0 hx12
    refine ⟨hCS11, ?_⟩
    refine C4 rfl (C0 Al3 rfl) (J9 [(((C2 s).getD at_ 0 : Nat), ((C2 s).getD at_ 0 : Nat))] false _ _ rfl (by simp) _ ‹_›) ?_
    rintro _ w13 ⟨rfl, hx13⟩
    have hB1 := hB1.u ((hx11.s0 hx12).s0 hx13)
    have hCS11 := hCS11.s0 hx13
    refine ⟨hCS11, ?_⟩
    refine H1 (F8 J1 rfl rfl ‹_› rfl rfl rfl rfl rfl) ?_
    intro w14 hs14 hx14 hB1
    have hB2 := hB2.q (((hx11.j hx12).j hx13).j hx14) (by simp <;> omega)
    have hCS11 := hCS11.step hx14 (by simp; done)
    refine ⟨hCS11, ?_⟩
    refine Pe G1 rfl ‹_› rfl rfl ?_
    intro w15 hs15 hx15 hB2
    have hC := hC.step ((((hx11.j hx12).j hx13).j hx14).j hx15) (by simp <;> omega)
    have hB1 := hB1.q hx15 (by simp; omega)
    refine Qc (A6 (C5 rfl rfl (A5 I5 ‹_› rfl rfl) rfl (A5 F3 ‹_› rfl rfl) ?_))
    exact ⟨hC, by rw [hE]; rfl⟩
theorem Dg7 (L : List Nat) (hL : ∀ b ∈ L, b < 256) : ∀ (f : Nat) (n : Int) (i : Nat), 0 ≤ n ∧ n ≤ 100000 → 0 ≤ (Cg8 L f n i).1 ∧ (Cg8 L f n i).1 ≤ 100000 ∧ i ≤ (Cg8 L f n i).2 ∧ (Cg8 L f n i).2 ≤ max i L.length
 | 0, n, i, h => ⟨h.1, h.2, Ds3 _, by show i ≤ max i L.length; omega⟩
 | f + 1, n, i, h => by
  rw [Cg8]
  by_cases hd : digR L i
  ·rw [Dr2 hd]
   have h1 := hd.1
   have h2 := hd.2.1
   have := Dg7 L hL f (min (10 * n + Aq4 (L.getD i 0)) 100000) (i + 1) (by omega)
   exact ⟨this.1, this.2.1, by omega, by omega⟩
  ·rw [Dr1 hd]
   exact ⟨h.1, h.2, Ds3 _, by show i ≤ max i L.length; omega⟩
theorem P6 (L : List Nat) (hL : ∀ b ∈ L, b < 256) (at_ : Nat) : 0 ≤ (J5 L at_).1 ∧ (J5 L at_).1 ≤ 1000 ∧ ∃ i : Nat, (J5 L at_).2.1 = (i : Int) ∧ at_ ≤ i ∧ i ≤ max at_ L.length := by
 have := Dg7 L hL (L.length - at_) 0 at_ (by omega)
 unfold J5
 simp only []
 split
 ·exact ⟨by show (0 : Int) ≤ 0; omega, by show (0 : Int) ≤ 1000; omega, _, rfl, this.2.2.1, this.2.2.2⟩
 ·split
  ·exact ⟨by show (0 : Int) ≤ 0; omega, by show (0 : Int) ≤ 1000; omega, at_, rfl, Ds3 _, by omega⟩
  ·exact ⟨this.1, by show (Cg8 L (L.length - at_) 0 at_).1 ≤ 1000; omega, _, rfl, this.2.2.1, this.2.2.2⟩
def N3 (L : List Nat) (m n : Int) (i : Nat) : Int × Int × Int × Int := if L.length ≤ i ∨ L.getD i 0 ≠ 125 then (0, 0, (i : Int), 4) else (m, n, (i : Int) + 1, 0)
def P4 (L : List Nat) (at_ : Nat) : Int × Int × Int × Int :=
 let a := J5 L at_
 if a.2.2 ≠ 0 then (0, 0, a.2) else
 let i := a.2.1.toNat
 if i < L.length ∧ L.getD i 0 = 44 then
  if L.length ≤ i + 1 ∨ L.getD (i + 1) 0 ≠ 125 then
   let k := J5 L (i + 1)
   if k.2.2 ≠ 0 then (0, 0, k.2) else if k.1 < a.1 then (0, 0, (i : Int) + 1, 5) else N3 L a.1 k.1 k.2.1.toNat
  else N3 L a.1 (-1) (i + 1)
 else N3 L a.1 a.1 i
theorem Df5 (s : ByteArray) (hs : s.size ≤ 1000) (at_ : Nat) (hat : at_ ≤ 2000) (w : World) : Calls P 172 #[.string s, .int .i64 (at_ : Nat)] w (Ret fun u w' => Chg [] w w' ∧ u = .tuple #[.int .i64 (P4 (C2 s) at_).1, .int .i64 (P4 (C2 s) at_).2.1, endV (P4 (C2 s) at_).2.2]) := by
 have hC := A8 [] w
 have hsl := E7 s
 have hlt := W5 s
 have hno := P6 (C2 s) hlt at_
 have hE : P4 (C2 s) at_ = P4 (C2 s) at_ := rfl
 conv at hE => rhs; unfold P4
 refine D3 Tryz.func172 rfl rfl (Qd (Z 2 rfl (B4 rfl (B6 I7 rfl) ?_)))
 intro b1 w1 hb1 hs1 hx1 hB1
 have hC := hC.s0 hx1
 refine Qc (Qd (Z 2 rfl (Ca fb201 rfl (Ba7 s hs at_ hat _) ?_)))
 rintro _ w2 ⟨hx2, rfl⟩
 have hz2 := hx2.size
 have hC := hC.s0 hx2
 have hB1 := hB1.u hx2
 generalize J5 (C2 s) at_ = a at *
 obtain ⟨m, pz, e⟩ := a
 obtain ⟨hm0, hm1, i, hi, hi1, hi2⟩ := hno
 simp only [] at hm0 hm1 hi hE
 subst hi
 refine Z 3 rfl (B4 rfl (B6 I7 rfl) ?_)
 intro b3 w3 hb3 hs3 hx3 hB3
 have hC := hC.s0 hx3
 have hB1 := hB1.u hx3
 refine Z 1 rfl (Pb G1 rfl rfl ‹_› rfl rfl rfl rfl (by simp only [List.take, List.drop, List.append, Dr6, Dr9]; rfl) ?_)
 intro w4 hs4 hx4 hB3
 have hC := hC.step hx4 (by simp; omega)
 have hB1 := hB1.q hx4 (by simp; omega)
 refine Qc (Qa (Qd (Fa Y9 rfl (Lb o3 rfl ‹_› (by rfl) ?_))))
 refine Zc 1 rfl (A4 rfl (fun h1 => ?_) (fun h1 => ?_))
 ·try simp at h1
  refine Qa (C6 (S := []) 3 [(0, 0), (0, 1), (0, 2), (2, 3)] mo (by kernel_rfl) ?_)
  intro w5 hx5 hh5
  have hC := hC.s0 hx5
  have hB1 := hB1.u hx5
  have hB3 := hB3.u hx5
  refine D5 rfl (B8 F3 rfl ‹_› (by simp; done) (by simp only [List.take, List.drop, List.append, Dr6, Dr9]; rfl) rfl) ?_
  refine Z 2 rfl (Pb G1 rfl rfl ‹_› rfl rfl rfl rfl (by simp only [List.take, List.drop, List.append, Dr6, Dr9]; rfl) ?_)
  intro w6 hs6 hx6 hB1
  have hC := hC.step hx6 (by simp; omega)
  refine Qc (A6 (E6 rfl rfl rfl rfl (A5 F3 ‹_› (by simp only [List.take, List.drop, List.append, Dr6, Dr9]; rfl) rfl) ?_))
  exact ⟨hC, by rw [hE, Dr2 h1]; rfl⟩
 ·try simp at h1
  have h1' : e = 0 := by simpa using h1
  subst h1'
  rw [Dr1 (by simp)] at hE
  simp only [Ds1] at hE
  refine A7 (Qd (Zc 2 rfl (Qa (Qd (Fa G0 rfl (Lb o3 rfl ‹_› (by rfl) ?_))))))
  refine Z 1 rfl (C7 rfl (F4 Tryz.underlying9 rfl) (Z 2 rfl (B7 (d := 28) rfl (fun h2 => ?_) (fun h2 => ?_))))
  ·try simp at h2
   have hin : i < s.size := by omega
   obtain ⟨u8, hu, hu2⟩ := I4 s i hin
   refine Qu rfl (Z 1 rfl (Qu rfl (Fa G0 rfl (Qu rfl (Lb o3 rfl ‹_› (by rfl) ?_)))))
   refine Qu rfl (C7 rfl (Does.to (E8 Tryz.underlying9 rfl rfl (by omega) (by exact hu)) (I9 (show ((u8.toNat : Nat) : Int) = (((C2 s).getD i 0 : Nat) : Int) by rw [hu2]))) ?_)
   refine Qu rfl (Zc 2 rfl (A4 rfl (fun h3 => ?_) (fun h3 => ?_)))
   ·rw [cmpB_eql] at h3
    rw [Dr2 ⟨by omega, by omega⟩] at hE
    refine Qd (Zc 1 rfl (Qd (Fa G0 rfl (Lb o3 rfl ‹_› (by rfl) ?_))))
    refine Ad rfl rfl (by omega) (Fa G0 rfl (Pb sz3 rfl rfl ‹_› rfl rfl rfl rfl (by simp only [List.take, List.drop, List.append, Dr6, Dr9]; rfl) ?_))
    intro w7 hs7 hx7 hB3
    have hC := hC.step hx7 (by simp; omega)
    have hB1 := hB1.q hx7 (by simp; omega)
    refine Qc (Qd (Fa G0 rfl (Lb o3 rfl ‹_› (by rfl) ?_)))
    refine Z 1 rfl (C7 rfl (F4 Tryz.underlying9 rfl) (Z 2 rfl (B7 (d := 44) rfl (fun h4 => ?_) (fun h4 => ?_))))
    ·try simp at h4
     rw [Dr2 (.inl (by omega))] at hE
     have hno2 := P6 (C2 s) hlt (i + 1)
     refine Qk rfl (Qk rfl (Qk rfl (Qk rfl (Qk rfl (Zc 1 rfl (E1 rfl (Qd (Z 1 rfl (Fa G0 rfl (Lb o3 rfl ‹_› (by rfl) ?_))))))))))
     refine Ca fb201 rfl (Ba7 s hs (i + 1) (by omega) _) ?_
     rintro _ w8 ⟨hx8, rfl⟩
     have hz8 := hx8.size
     have hC := hC.s0 hx8
     have hB1 := hB1.u hx8
     have hB3 := hB3.u hx8
     generalize J5 (C2 s) (i + 1) = k at *
     obtain ⟨kn, kz, ke⟩ := k
     obtain ⟨hk0, hk1, j, hj, hj1, hj2⟩ := hno2
     simp only [] at hk0 hk1 hj hE
     subst hj
     refine Z 3 rfl (B4 rfl (B6 I7 rfl) ?_)
     intro b9 w9 hb9 hs9 hx9 hB9
     have hC := hC.s0 hx9
     have hB1 := hB1.u hx9
     have hB3 := hB3.u hx9
     refine Z 1 rfl (Pb G1 rfl rfl ‹_› rfl rfl rfl rfl (by simp only [List.take, List.drop, List.append, Dr6, Dr9]; rfl) ?_)
     intro w10 hs10 hx10 hB9
     have hC := hC.step hx10 (by simp; omega)
     have hB1 := hB1.q hx10 (by simp; omega)
     have hB3 := hB3.q hx10 (by simp; omega)
     refine Qc (Qa (Qd (Fa Y9 rfl (Lb o3 rfl ‹_› (by rfl) ?_))))
     refine Zc 1 rfl (A4 rfl (fun h6 => ?_) (fun h6 => ?_))
     ·try simp at h6
      refine Qa (C6 (S := []) 3 [(0, 0), (0, 1), (0, 2), (2, 3)] mo (by kernel_rfl) ?_)
      intro w11 hx11 hh11
      have hC := hC.s0 hx11
      have hB1 := hB1.u hx11
      have hB9 := hB9.u hx11
      refine D5 rfl (B8 F3 rfl ‹_› (by simp; done) (by simp only [List.take, List.drop, List.append, Dr6, Dr9]; rfl) rfl) ?_
      refine Z 2 rfl (Pb G1 rfl rfl ‹_› rfl rfl rfl rfl (by simp only [List.take, List.drop, List.append, Dr6, Dr9]; rfl) ?_)
      intro w12 hs12 hx12 hB1
      have hC := hC.step hx12 (by simp; omega)
      refine Qc (A6 (E6 rfl rfl rfl rfl (A5 F3 ‹_› (by simp only [List.take, List.drop, List.append, Dr6, Dr9]; rfl) rfl) ?_))
      exact ⟨hC, by rw [hE, Dr2 h6]; rfl⟩
     ·try simp at h6
      have h6' : ke = 0 := by simpa using h6
      subst h6'
      rw [Dr1 (by simp)] at hE
      refine A7 (Qa (Qd (Zc 3 rfl (A4 rfl (fun h7 => ?_) (fun h7 => ?_)))))
      ·try simp at h7
       refine Qa (C6 (S := []) 5 [(0, 0), (0, 1), (0, 2), (0, 3), (0, 4), (2, 5)] mo (by kernel_rfl) ?_)
       intro w13 hx13 hh13
       have hC := hC.s0 hx13
       have hB1 := hB1.u hx13
       have hB3 := hB3.u hx13
       refine Fa G0 rfl (D5 rfl (B2 o3 rfl ‹_› (by simp; done) (by rfl)) ?_)
       refine D5 rfl (A9 I7 K0 rfl (by rfl)) ?_
       refine Z 2 rfl (Pb G1 rfl rfl ‹_› rfl rfl rfl rfl (by simp only [List.take, List.drop, List.append, Dr6, Dr9]; rfl) ?_)
       intro w14 hs14 hx14 hB1
       have hC := hC.step hx14 (by simp; omega)
       refine Qc (A6 (E6 rfl rfl rfl rfl (A5 F3 ‹_› (by simp only [List.take, List.drop, List.append, Dr6, Dr9]; rfl) rfl) ?_))
       exact ⟨hC, by rw [hE, Dr2 h7]; rfl⟩
      ·try simp at h7
       rw [Dr1 (by omega)] at hE
       simp only [Ds1] at hE
       refine A7 (Qd (Zc 2 rfl (Qb (La F3 rfl ‹_› (by simp only [List.take, List.drop, List.append, Dr6, Dr9]; rfl) rfl ?_))))
       refine Pb G1 rfl rfl ‹_› rfl rfl rfl rfl (by simp only [List.take, List.drop, List.append, Dr6, Dr9]; rfl) ?_
       intro w15 hs15 hx15 hB3
       have hC := hC.step hx15 (by simp; omega)
       have hB1 := hB1.q hx15 (by simp; omega)
       refine Qc (Qa (Qd (Fa G0 rfl (Lb o3 rfl ‹_› (by rfl) ?_))))
       refine Z 1 rfl (C7 rfl (F4 Tryz.underlying9 rfl) (Z 2 rfl (B7 (d := 75) rfl (fun t1 => ?_) (fun t1 => ?_))))
       ·try simp at t1
        refine Qk rfl (Qk rfl (Qk rfl (Qk rfl (Qk rfl (Zc 1 rfl (E1 rfl (Qa (C6 (S := []) 5 [(0, 0), (0, 1), (0, 2), (0, 3), (0, 4), (2, 5)] mo (by kernel_rfl) ?_))))))))
        intro w16 hx16 hh16
        have hC := hC.s0 hx16
        have hB1 := hB1.u hx16
        have hB3 := hB3.u hx16
        refine Fa G0 rfl (D5 rfl (B2 o3 rfl ‹_› (by simp; done) (by rfl)) ?_)
        refine D5 rfl (A9 I7 K0 rfl (by rfl)) ?_
        refine Z 2 rfl (Pb G1 rfl rfl ‹_› rfl rfl rfl rfl (by simp only [List.take, List.drop, List.append, Dr6, Dr9]; rfl) ?_)
        intro w17 hs17 hx17 hB1
        have hC := hC.step hx17 (by simp; omega)
        refine Qc (A6 (E6 rfl rfl rfl rfl (A5 F3 ‹_› (by simp only [List.take, List.drop, List.append, Dr6, Dr9]; rfl) rfl) ?_))
        exact ⟨hC, by rw [hE]; unfold N3; rw [Dr2 (.inl (by omega))]; rfl⟩
       ·try simp at t1
        have hin : j < s.size := by omega
        obtain ⟨u8, hu, hu2⟩ := I4 s (j) hin
        refine Qu rfl (Z 1 rfl (Qu rfl (Fa G0 rfl (Qu rfl (Lb o3 rfl ‹_› (by rfl) ?_)))))
        refine Qu rfl (C7 rfl (Does.to (E8 Tryz.underlying9 rfl rfl (by omega) (by exact hu)) (I9 (show ((u8.toNat : Nat) : Int) = (((C2 s).getD (j) 0 : Nat) : Int) by rw [hu2]))) ?_)
        refine Qu rfl (Zc 2 rfl (A4 rfl (fun t2 => ?_) (fun t2 => ?_)))
        ·rw [cmpB_neq] at t2
         refine Qa (C6 (S := []) 5 [(0, 0), (0, 1), (0, 2), (0, 3), (0, 4), (2, 5)] mo (by kernel_rfl) ?_)
         intro w18 hx18 hh18
         have hC := hC.s0 hx18
         have hB1 := hB1.u hx18
         have hB3 := hB3.u hx18
         refine Fa G0 rfl (D5 rfl (B2 o3 rfl ‹_› (by simp; done) (by rfl)) ?_)
         refine D5 rfl (A9 I7 K0 rfl (by rfl)) ?_
         refine Z 2 rfl (Pb G1 rfl rfl ‹_› rfl rfl rfl rfl (by simp only [List.take, List.drop, List.append, Dr6, Dr9]; rfl) ?_)
         intro w19 hs19 hx19 hB1
         have hC := hC.step hx19 (by simp; omega)
         refine Qc (A6 (E6 rfl rfl rfl rfl (A5 F3 ‹_› (by simp only [List.take, List.drop, List.append, Dr6, Dr9]; rfl) rfl) ?_))
         exact ⟨hC, by rw [hE]; unfold N3; rw [Dr2 (.inr (by omega))]; rfl⟩
        ·rw [cmpB_neqF] at t2
         refine A7 (Qa (C6 (S := []) 8 [(0, 0), (0, 1), (0, 2), (0, 3), (0, 4), (0, 5), (0, 6), (0, 7), (2, 8)] mo (by kernel_rfl) ?_))
         intro w20 hx20 hh20
         have hC := hC.s0 hx20
         have hB1 := hB1.u hx20
         have hB3 := hB3.u hx20
         refine Z 2 rfl (Fa G0 rfl (D5 rfl (B2 o3 rfl ‹_› (by simp; done) (by rfl)) ?_))
         refine Ad rfl rfl (by omega) (D5 rfl (A9 I7 K0 rfl (by rfl)) ?_)
         refine Z 2 rfl (Pb G1 rfl rfl ‹_› rfl rfl rfl rfl (by simp only [List.take, List.drop, List.append, Dr6, Dr9]; rfl) ?_)
         intro w21 hs21 hx21 hB1
         have hC := hC.step hx21 (by simp; omega)
         refine Qc (A6 (E6 rfl rfl rfl rfl (A5 F3 ‹_› (by simp only [List.take, List.drop, List.append, Dr6, Dr9]; rfl) rfl) ?_))
         exact ⟨hC, by rw [hE]; unfold N3; rw [Dr1 (by omega)]; rfl⟩
    ·try simp at h4
     have hin3 : i + 1 < s.size := by omega
     obtain ⟨u9, hu3, hu4⟩ := I4 s (i + 1) hin3
     refine Qu rfl (Z 1 rfl (Qu rfl (Fa G0 rfl (Qu rfl (Lb o3 rfl ‹_› (by rfl) ?_)))))
     refine Qu rfl (C7 rfl (Does.to (E8 Tryz.underlying9 rfl rfl (by omega) (by exact hu3)) (I9 (show ((u9.toNat : Nat) : Int) = (((C2 s).getD (i + 1) 0 : Nat) : Int) by rw [hu4]))) ?_)
     refine Qu rfl (Zc 2 rfl (A4 rfl (fun h5 => ?_) (fun h5 => ?_)))
     ·rw [cmpB_neq] at h5
      rw [Dr2 (.inr (by omega))] at hE
      have hno2 := P6 (C2 s) hlt (i + 1)
      refine Qd (Z 1 rfl (Fa G0 rfl (Lb o3 rfl ‹_› (by rfl) ?_)))
      refine Ca fb201 rfl (Ba7 s hs (i + 1) (by omega) _) ?_
      rintro _ w22 ⟨hx22, rfl⟩
      have hz22 := hx22.size
      have hC := hC.s0 hx22
      have hB1 := hB1.u hx22
      have hB3 := hB3.u hx22
      generalize J5 (C2 s) (i + 1) = k at *
      obtain ⟨kn, kz, ke⟩ := k
      obtain ⟨hk0, hk1, j, hj, hj1, hj2⟩ := hno2
      simp only [] at hk0 hk1 hj hE
      subst hj
      refine Z 3 rfl (B4 rfl (B6 I7 rfl) ?_)
      intro b23 w23 hb23 hs23 hx23 hB23
      have hC := hC.s0 hx23
      have hB1 := hB1.u hx23
      have hB3 := hB3.u hx23
      refine Z 1 rfl (Pb G1 rfl rfl ‹_› rfl rfl rfl rfl (by simp only [List.take, List.drop, List.append, Dr6, Dr9]; rfl) ?_)
      intro w24 hs24 hx24 hB23
      have hC := hC.step hx24 (by simp; omega)
      have hB1 := hB1.q hx24 (by simp; omega)
      have hB3 := hB3.q hx24 (by simp; omega)
      refine Qc (Qa (Qd (Fa Y9 rfl (Lb o3 rfl ‹_› (by rfl) ?_))))
      refine Zc 1 rfl (A4 rfl (fun h6 => ?_) (fun h6 => ?_))
      ·try simp at h6
       refine Qa (C6 (S := []) 3 [(0, 0), (0, 1), (0, 2), (2, 3)] mo (by kernel_rfl) ?_)
       intro w25 hx25 hh25
       have hC := hC.s0 hx25
       have hB1 := hB1.u hx25
       have hB23 := hB23.u hx25
       refine D5 rfl (B8 F3 rfl ‹_› (by simp; done) (by simp only [List.take, List.drop, List.append, Dr6, Dr9]; rfl) rfl) ?_
       refine Z 2 rfl (Pb G1 rfl rfl ‹_› rfl rfl rfl rfl (by simp only [List.take, List.drop, List.append, Dr6, Dr9]; rfl) ?_)
       intro w26 hs26 hx26 hB1
       have hC := hC.step hx26 (by simp; omega)
       refine Qc (A6 (E6 rfl rfl rfl rfl (A5 F3 ‹_› (by simp only [List.take, List.drop, List.append, Dr6, Dr9]; rfl) rfl) ?_))
       exact ⟨hC, by rw [hE, Dr2 h6]; rfl⟩
      ·try simp at h6
       have h6' : ke = 0 := by simpa using h6
       subst h6'
       rw [Dr1 (by simp)] at hE
       refine A7 (Qa (Qd (Zc 3 rfl (A4 rfl (fun h7 => ?_) (fun h7 => ?_)))))
       ·try simp at h7
        refine Qa (C6 (S := []) 5 [(0, 0), (0, 1), (0, 2), (0, 3), (0, 4), (2, 5)] mo (by kernel_rfl) ?_)
        intro w27 hx27 hh27
        have hC := hC.s0 hx27
        have hB1 := hB1.u hx27
        have hB3 := hB3.u hx27
        refine Fa G0 rfl (D5 rfl (B2 o3 rfl ‹_› (by simp; done) (by rfl)) ?_)
        refine D5 rfl (A9 I7 K0 rfl (by rfl)) ?_
        refine Z 2 rfl (Pb G1 rfl rfl ‹_› rfl rfl rfl rfl (by simp only [List.take, List.drop, List.append, Dr6, Dr9]; rfl) ?_)
        intro w28 hs28 hx28 hB1
        have hC := hC.step hx28 (by simp; omega)
        refine Qc (A6 (E6 rfl rfl rfl rfl (A5 F3 ‹_› (by simp only [List.take, List.drop, List.append, Dr6, Dr9]; rfl) rfl) ?_))
        exact ⟨hC, by rw [hE, Dr2 h7]; rfl⟩
       ·try simp at h7
        rw [Dr1 (by omega)] at hE
        simp only [Ds1] at hE
        refine A7 (Qd (Zc 2 rfl (Qb (La F3 rfl ‹_› (by simp only [List.take, List.drop, List.append, Dr6, Dr9]; rfl) rfl ?_))))
        refine Pb G1 rfl rfl ‹_› rfl rfl rfl rfl (by simp only [List.take, List.drop, List.append, Dr6, Dr9]; rfl) ?_
        intro w29 hs29 hx29 hB3
        have hC := hC.step hx29 (by simp; omega)
        have hB1 := hB1.q hx29 (by simp; omega)
        refine Qc (Qa (Qd (Fa G0 rfl (Lb o3 rfl ‹_› (by rfl) ?_))))
        refine Z 1 rfl (C7 rfl (F4 Tryz.underlying9 rfl) (Z 2 rfl (B7 (d := 75) rfl (fun t1 => ?_) (fun t1 => ?_))))
        ·try simp at t1
         refine Qk rfl (Qk rfl (Qk rfl (Qk rfl (Qk rfl (Zc 1 rfl (E1 rfl (Qa (C6 (S := []) 5 [(0, 0), (0, 1), (0, 2), (0, 3), (0, 4), (2, 5)] mo (by kernel_rfl) ?_))))))))
         intro w30 hx30 hh30
         have hC := hC.s0 hx30
         have hB1 := hB1.u hx30
         have hB3 := hB3.u hx30
         refine Fa G0 rfl (D5 rfl (B2 o3 rfl ‹_› (by simp; done) (by rfl)) ?_)
         refine D5 rfl (A9 I7 K0 rfl (by rfl)) ?_
         refine Z 2 rfl (Pb G1 rfl rfl ‹_› rfl rfl rfl rfl (by simp only [List.take, List.drop, List.append, Dr6, Dr9]; rfl) ?_)
         intro w31 hs31 hx31 hB1
         have hC := hC.step hx31 (by simp; omega)
         refine Qc (A6 (E6 rfl rfl rfl rfl (A5 F3 ‹_› (by simp only [List.take, List.drop, List.append, Dr6, Dr9]; rfl) rfl) ?_))
         exact ⟨hC, by rw [hE]; unfold N3; rw [Dr2 (.inl (by omega))]; rfl⟩
        ·try simp at t1
         have hin : j < s.size := by omega
         obtain ⟨u8, hu, hu2⟩ := I4 s (j) hin
         refine Qu rfl (Z 1 rfl (Qu rfl (Fa G0 rfl (Qu rfl (Lb o3 rfl ‹_› (by rfl) ?_)))))
         refine Qu rfl (C7 rfl (Does.to (E8 Tryz.underlying9 rfl rfl (by omega) (by exact hu)) (I9 (show ((u8.toNat : Nat) : Int) = (((C2 s).getD (j) 0 : Nat) : Int) by rw [hu2]))) ?_)
         refine Qu rfl (Zc 2 rfl (A4 rfl (fun t2 => ?_) (fun t2 => ?_)))
         ·rw [cmpB_neq] at t2
          refine Qa (C6 (S := []) 5 [(0, 0), (0, 1), (0, 2), (0, 3), (0, 4), (2, 5)] mo (by kernel_rfl) ?_)
          intro w32 hx32 hh32
          have hC := hC.s0 hx32
          have hB1 := hB1.u hx32
          have hB3 := hB3.u hx32
          refine Fa G0 rfl (D5 rfl (B2 o3 rfl ‹_› (by simp; done) (by rfl)) ?_)
          refine D5 rfl (A9 I7 K0 rfl (by rfl)) ?_
          refine Z 2 rfl (Pb G1 rfl rfl ‹_› rfl rfl rfl rfl (by simp only [List.take, List.drop, List.append, Dr6, Dr9]; rfl) ?_)
          intro w33 hs33 hx33 hB1
          have hC := hC.step hx33 (by simp; omega)
          refine Qc (A6 (E6 rfl rfl rfl rfl (A5 F3 ‹_› (by simp only [List.take, List.drop, List.append, Dr6, Dr9]; rfl) rfl) ?_))
          exact ⟨hC, by rw [hE]; unfold N3; rw [Dr2 (.inr (by omega))]; rfl⟩
         ·rw [cmpB_neqF] at t2
          refine A7 (Qa (C6 (S := []) 8 [(0, 0), (0, 1), (0, 2), (0, 3), (0, 4), (0, 5), (0, 6), (0, 7), (2, 8)] mo (by kernel_rfl) ?_))
          intro w34 hx34 hh34
          have hC := hC.s0 hx34
          have hB1 := hB1.u hx34
          have hB3 := hB3.u hx34
          refine Z 2 rfl (Fa G0 rfl (D5 rfl (B2 o3 rfl ‹_› (by simp; done) (by rfl)) ?_))
          refine Ad rfl rfl (by omega) (D5 rfl (A9 I7 K0 rfl (by rfl)) ?_)
          refine Z 2 rfl (Pb G1 rfl rfl ‹_› rfl rfl rfl rfl (by simp only [List.take, List.drop, List.append, Dr6, Dr9]; rfl) ?_)
          intro w35 hs35 hx35 hB1
          have hC := hC.step hx35 (by simp; omega)
          refine Qc (A6 (E6 rfl rfl rfl rfl (A5 F3 ‹_› (by simp only [List.take, List.drop, List.append, Dr6, Dr9]; rfl) rfl) ?_))
          exact ⟨hC, by rw [hE]; unfold N3; rw [Dr1 (by omega)]; rfl⟩
     ·rw [cmpB_neqF] at h5
      rw [Dr1 (by omega)] at hE
      refine A7 (Qa (Qd (Fa G0 rfl (Lb o3 rfl ‹_› (by rfl) ?_))))
      refine Z 1 rfl (C7 rfl (F4 Tryz.underlying9 rfl) (Z 2 rfl (B7 (d := 75) rfl (fun t1 => ?_) (fun t1 => ?_))))
      ·try simp at t1
       refine Qk rfl (Qk rfl (Qk rfl (Qk rfl (Qk rfl (Zc 1 rfl (E1 rfl (Qa (C6 (S := []) 5 [(0, 0), (0, 1), (0, 2), (0, 3), (0, 4), (2, 5)] mo (by kernel_rfl) ?_))))))))
       intro w36 hx36 hh36
       have hC := hC.s0 hx36
       have hB1 := hB1.u hx36
       have hB3 := hB3.u hx36
       refine Fa G0 rfl (D5 rfl (B2 o3 rfl ‹_› (by simp; done) (by rfl)) ?_)
       refine D5 rfl (A9 I7 K0 rfl (by rfl)) ?_
       refine Z 2 rfl (Pb G1 rfl rfl ‹_› rfl rfl rfl rfl (by simp only [List.take, List.drop, List.append, Dr6, Dr9]; rfl) ?_)
       intro w37 hs37 hx37 hB1
       have hC := hC.step hx37 (by simp; omega)
       refine Qc (A6 (E6 rfl rfl rfl rfl (A5 F3 ‹_› (by simp only [List.take, List.drop, List.append, Dr6, Dr9]; rfl) rfl) ?_))
       exact ⟨hC, by rw [hE]; unfold N3; rw [Dr2 (.inl (by omega))]; rfl⟩
      ·try simp at t1
       have hin : i + 1 < s.size := by omega
       obtain ⟨u8, hu, hu2⟩ := I4 s (i + 1) hin
       refine Qu rfl (Z 1 rfl (Qu rfl (Fa G0 rfl (Qu rfl (Lb o3 rfl ‹_› (by rfl) ?_)))))
       refine Qu rfl (C7 rfl (Does.to (E8 Tryz.underlying9 rfl rfl (by omega) (by exact hu)) (I9 (show ((u8.toNat : Nat) : Int) = (((C2 s).getD (i + 1) 0 : Nat) : Int) by rw [hu2]))) ?_)
       refine Qu rfl (Zc 2 rfl (A4 rfl (fun t2 => ?_) (fun t2 => ?_)))
       ·rw [cmpB_neq] at t2
        refine Qa (C6 (S := []) 5 [(0, 0), (0, 1), (0, 2), (0, 3), (0, 4), (2, 5)] mo (by kernel_rfl) ?_)
        intro w38 hx38 hh38
        have hC := hC.s0 hx38
        have hB1 := hB1.u hx38
        have hB3 := hB3.u hx38
        refine Fa G0 rfl (D5 rfl (B2 o3 rfl ‹_› (by simp; done) (by rfl)) ?_)
        refine D5 rfl (A9 I7 K0 rfl (by rfl)) ?_
        refine Z 2 rfl (Pb G1 rfl rfl ‹_› rfl rfl rfl rfl (by simp only [List.take, List.drop, List.append, Dr6, Dr9]; rfl) ?_)
        intro w39 hs39 hx39 hB1
        have hC := hC.step hx39 (by simp; omega)
        refine Qc (A6 (E6 rfl rfl rfl rfl (A5 F3 ‹_› (by simp only [List.take, List.drop, List.append, Dr6, Dr9]; rfl) rfl) ?_))
        exact ⟨hC, by rw [hE]; unfold N3; rw [Dr2 (.inr (by omega))]; rfl⟩
       ·rw [cmpB_neqF] at t2
        refine A7 (Qa (C6 (S := []) 8 [(0, 0), (0, 1), (0, 2), (0, 3), (0, 4), (0, 5), (0, 6), (0, 7), (2, 8)] mo (by kernel_rfl) ?_))
        intro w40 hx40 hh40
        have hC := hC.s0 hx40
        have hB1 := hB1.u hx40
        have hB3 := hB3.u hx40
        refine Z 2 rfl (Fa G0 rfl (D5 rfl (B2 o3 rfl ‹_› (by simp; done) (by rfl)) ?_))
        refine Ad rfl rfl (by omega) (D5 rfl (A9 I7 K0 rfl (by rfl)) ?_)
        refine Z 2 rfl (Pb G1 rfl rfl ‹_› rfl rfl rfl rfl (by simp only [List.take, List.drop, List.append, Dr6, Dr9]; rfl) ?_)
        intro w41 hs41 hx41 hB1
        have hC := hC.step hx41 (by simp; omega)
        refine Qc (A6 (E6 rfl rfl rfl rfl (A5 F3 ‹_› (by simp only [List.take, List.drop, List.append, Dr6, Dr9]; rfl) rfl) ?_))
        exact ⟨hC, by rw [hE]; unfold N3; rw [Dr1 (by omega)]; rfl⟩
   ·rw [cmpB_eqlF] at h3
    rw [Dr1 (by omega)] at hE
    refine A7 (Qa (Qd (Fa G0 rfl (Lb o3 rfl ‹_› (by rfl) ?_))))
    refine Z 1 rfl (C7 rfl (F4 Tryz.underlying9 rfl) (Z 2 rfl (B7 (d := 75) rfl (fun t1 => ?_) (fun t1 => ?_))))
    ·try simp at t1
     refine Qk rfl (Qk rfl (Qk rfl (Qk rfl (Qk rfl (Zc 1 rfl (E1 rfl (Qa (C6 (S := []) 5 [(0, 0), (0, 1), (0, 2), (0, 3), (0, 4), (2, 5)] mo (by kernel_rfl) ?_))))))))
     intro w42 hx42 hh42
     have hC := hC.s0 hx42
     have hB1 := hB1.u hx42
     have hB3 := hB3.u hx42
     refine Fa G0 rfl (D5 rfl (B2 o3 rfl ‹_› (by simp; done) (by rfl)) ?_)
     refine D5 rfl (A9 I7 K0 rfl (by rfl)) ?_
     refine Z 2 rfl (Pb G1 rfl rfl ‹_› rfl rfl rfl rfl (by simp only [List.take, List.drop, List.append, Dr6, Dr9]; rfl) ?_)
     intro w43 hs43 hx43 hB1
     have hC := hC.step hx43 (by simp; omega)
     refine Qc (A6 (E6 rfl rfl rfl rfl (A5 F3 ‹_› (by simp only [List.take, List.drop, List.append, Dr6, Dr9]; rfl) rfl) ?_))
     exact ⟨hC, by rw [hE]; unfold N3; rw [Dr2 (.inl (by omega))]; rfl⟩
    ·try simp at t1
     have hin : i < s.size := by omega
     obtain ⟨u8, hu, hu2⟩ := I4 s (i) hin
     refine Qu rfl (Z 1 rfl (Qu rfl (Fa G0 rfl (Qu rfl (Lb o3 rfl ‹_› (by rfl) ?_)))))
     refine Qu rfl (C7 rfl (Does.to (E8 Tryz.underlying9 rfl rfl (by omega) (by exact hu)) (I9 (show ((u8.toNat : Nat) : Int) = (((C2 s).getD (i) 0 : Nat) : Int) by rw [hu2]))) ?_)
     refine Qu rfl (Zc 2 rfl (A4 rfl (fun t2 => ?_) (fun t2 => ?_)))
     ·rw [cmpB_neq] at t2
      refine Qa (C6 (S := []) 5 [(0, 0), (0, 1), (0, 2), (0, 3), (0, 4), (2, 5)] mo (by kernel_rfl) ?_)
      intro w44 hx44 hh44
      have hC := hC.s0 hx44
      have hB1 := hB1.u hx44
      have hB3 := hB3.u hx44
      refine Fa G0 rfl (D5 rfl (B2 o3 rfl ‹_› (by simp; done) (by rfl)) ?_)
      refine D5 rfl (A9 I7 K0 rfl (by rfl)) ?_
      refine Z 2 rfl (Pb G1 rfl rfl ‹_› rfl rfl rfl rfl (by simp only [List.take, List.drop, List.append, Dr6, Dr9]; rfl) ?_)
      intro w45 hs45 hx45 hB1
      have hC := hC.step hx45 (by simp; omega)
      refine Qc (A6 (E6 rfl rfl rfl rfl (A5 F3 ‹_› (by simp only [List.take, List.drop, List.append, Dr6, Dr9]; rfl) rfl) ?_))
      exact ⟨hC, by rw [hE]; unfold N3; rw [Dr2 (.inr (by omega))]; rfl⟩
     ·rw [cmpB_neqF] at t2
      refine A7 (Qa (C6 (S := []) 8 [(0, 0), (0, 1), (0, 2), (0, 3), (0, 4), (0, 5), (0, 6), (0, 7), (2, 8)] mo (by kernel_rfl) ?_))
      intro w46 hx46 hh46
      have hC := hC.s0 hx46
      have hB1 := hB1.u hx46
      have hB3 := hB3.u hx46
      refine Z 2 rfl (Fa G0 rfl (D5 rfl (B2 o3 rfl ‹_› (by simp; done) (by rfl)) ?_))
      refine Ad rfl rfl (by omega) (D5 rfl (A9 I7 K0 rfl (by rfl)) ?_)
      refine Z 2 rfl (Pb G1 rfl rfl ‹_› rfl rfl rfl rfl (by simp only [List.take, List.drop, List.append, Dr6, Dr9]; rfl) ?_)
      intro w47 hs47 hx47 hB1
      have hC := hC.step hx47 (by simp; omega)
      refine Qc (A6 (E6 rfl rfl rfl rfl (A5 F3 ‹_› (by simp only [List.take, List.drop, List.append, Dr6, Dr9]; rfl) rfl) ?_))
      exact ⟨hC, by rw [hE]; unfold N3; rw [Dr1 (by omega)]; rfl⟩
  ·try simp at h2
   rw [Dr1 (by omega)] at hE
   refine Qk rfl (Qk rfl (Qk rfl (Qk rfl (Qk rfl (Zc 1 rfl (E3 rfl (A7 (Qa (Qd (Fa G0 rfl (Lb o3 rfl ‹_› (by rfl) ?_)))))))))))
   refine Z 1 rfl (C7 rfl (F4 Tryz.underlying9 rfl) (Z 2 rfl (B7 (d := 75) rfl (fun t1 => ?_) (fun t1 => ?_))))
   ·try simp at t1
    refine Qk rfl (Qk rfl (Qk rfl (Qk rfl (Qk rfl (Zc 1 rfl (E1 rfl (Qa (C6 (S := []) 5 [(0, 0), (0, 1), (0, 2), (0, 3), (0, 4), (2, 5)] mo (by kernel_rfl) ?_))))))))
    intro w48 hx48 hh48
    have hC := hC.s0 hx48
    have hB1 := hB1.u hx48
    have hB3 := hB3.u hx48
    refine Fa G0 rfl (D5 rfl (B2 o3 rfl ‹_› (by simp; done) (by rfl)) ?_)
    refine D5 rfl (A9 I7 K0 rfl (by rfl)) ?_
    refine Z 2 rfl (Pb G1 rfl rfl ‹_› rfl rfl rfl rfl (by simp only [List.take, List.drop, List.append, Dr6, Dr9]; rfl) ?_)
    intro w49 hs49 hx49 hB1
    have hC := hC.step hx49 (by simp; omega)
    refine Qc (A6 (E6 rfl rfl rfl rfl (A5 F3 ‹_› (by simp only [List.take, List.drop, List.append, Dr6, Dr9]; rfl) rfl) ?_))
    exact ⟨hC, by rw [hE]; unfold N3; rw [Dr2 (.inl (by omega))]; rfl⟩
   ·try simp at t1
    have hin : i < s.size := by omega
    obtain ⟨u8, hu, hu2⟩ := I4 s (i) hin
    refine Qu rfl (Z 1 rfl (Qu rfl (Fa G0 rfl (Qu rfl (Lb o3 rfl ‹_› (by rfl) ?_)))))
    refine Qu rfl (C7 rfl (Does.to (E8 Tryz.underlying9 rfl rfl (by omega) (by exact hu)) (I9 (show ((u8.toNat : Nat) : Int) = (((C2 s).getD (i) 0 : Nat) : Int) by rw [hu2]))) ?_)
    refine Qu rfl (Zc 2 rfl (A4 rfl (fun t2 => ?_) (fun t2 => ?_)))
    ·rw [cmpB_neq] at t2
     refine Qa (C6 (S := []) 5 [(0, 0), (0, 1), (0, 2), (0, 3), (0, 4), (2, 5)] mo (by kernel_rfl) ?_)
     intro w50 hx50 hh50
     have hC := hC.s0 hx50
     have hB1 := hB1.u hx50
     have hB3 := hB3.u hx50
     refine Fa G0 rfl (D5 rfl (B2 o3 rfl ‹_› (by simp; done) (by rfl)) ?_)
     refine D5 rfl (A9 I7 K0 rfl (by rfl)) ?_
     refine Z 2 rfl (Pb G1 rfl rfl ‹_› rfl rfl rfl rfl (by simp only [List.take, List.drop, List.append, Dr6, Dr9]; rfl) ?_)
     intro w51 hs51 hx51 hB1
     have hC := hC.step hx51 (by simp; omega)
     refine Qc (A6 (E6 rfl rfl rfl rfl (A5 F3 ‹_› (by simp only [List.take, List.drop, List.append, Dr6, Dr9]; rfl) rfl) ?_))
     exact ⟨hC, by rw [hE]; unfold N3; rw [Dr2 (.inr (by omega))]; rfl⟩
    ·rw [cmpB_neqF] at t2
     refine A7 (Qa (C6 (S := []) 8 [(0, 0), (0, 1), (0, 2), (0, 3), (0, 4), (0, 5), (0, 6), (0, 7), (2, 8)] mo (by kernel_rfl) ?_))
     intro w52 hx52 hh52
     have hC := hC.s0 hx52
     have hB1 := hB1.u hx52
     have hB3 := hB3.u hx52
     refine Z 2 rfl (Fa G0 rfl (D5 rfl (B2 o3 rfl ‹_› (by simp; done) (by rfl)) ?_))
     refine Ad rfl rfl (by omega) (D5 rfl (A9 I7 K0 rfl (by rfl)) ?_)
     refine Z 2 rfl (Pb G1 rfl rfl ‹_› rfl rfl rfl rfl (by simp only [List.take, List.drop, List.append, Dr6, Dr9]; rfl) ?_)
     intro w53 hs53 hx53 hB1
     have hC := hC.step hx53 (by simp; omega)
     refine Qc (A6 (E6 rfl rfl rfl rfl (A5 F3 ‹_› (by simp only [List.take, List.drop, List.append, Dr6, Dr9]; rfl) rfl) ?_))
     exact ⟨hC, by rw [hE]; unfold N3; rw [Dr1 (by omega)]; rfl⟩
theorem Cq7 (L : List Nat) : ∀ (k at_ n : Nat), (∀ m, Bi1 L at_ k n = .inl m → at_ + k ≤ L.length ∨ k = 0) ∧ (∀ i, Bi1 L at_ k n = .inr i → i ≤ L.length)
 | 0, at_, n => ⟨fun m _ => .inr rfl, fun i h => by cases h⟩
 | k + 1, at_, n => by
  rw [Bi1]
  by_cases h1 : L.length ≤ at_
  ·rw [Dr2 h1]; exact ⟨fun m h => (by cases h), fun i h => by injection h with h; omega⟩
  ·rw [Dr1 h1]
   by_cases h2 : Aq4 (L.getD at_ 0) < 0
   ·rw [Dr2 h2]; exact ⟨fun m h => (by cases h), fun i h => by injection h with h; omega⟩
   ·rw [Dr1 h2]
    have := Cq7 L k (at_ + 1) (16 * n + (Aq4 (L.getD at_ 0)).toNat)
    exact ⟨fun m h => by rcases this.1 m h with h | h <;> omega, this.2⟩
def EscPos (L : List Nat) (at_ : Nat) (r : Nat × Int × Int) : Prop := ∃ i : Nat, r.2.1 = (i : Int) ∧ (r.2.2 = 0 → at_ + 2 ≤ i ∧ i ≤ L.length) ∧ i ≤ L.length + at_ + 1
theorem Cr4 (L : List Nat) (at_ : Nat) : EscPos L at_ (Dm3 L at_) := by
 unfold Dm3
 by_cases h1 : L.length ≤ at_ + 1
 ·rw [Dr2 h1]; exact ⟨L.length, rfl, fun h => (by cases h), by omega⟩
 rw [Dr1 h1]
 simp only []
 have h2 : ((at_ : Int) + 2) = ((at_ + 2 : Nat) : Int) := by omega
 have hex := Cq7 L 2 (at_ + 2) 0
 generalize L.getD (at_ + 1) 0 = c
 by_cases g0 : c ∈ C2 selfT
 ·rw [Dr2 g0]; exact ⟨at_ + 2, h2, fun _ => ⟨by omega, by omega⟩, by omega⟩
 rw [Dr1 g0]
 by_cases g1 : c = 110
 ·rw [Dr2 g1]; exact ⟨at_ + 2, h2, fun _ => ⟨by omega, by omega⟩, by omega⟩
 rw [Dr1 g1]
 by_cases g2 : c = 116
 ·rw [Dr2 g2]; exact ⟨at_ + 2, h2, fun _ => ⟨by omega, by omega⟩, by omega⟩
 rw [Dr1 g2]
 by_cases g3 : c = 114
 ·rw [Dr2 g3]; exact ⟨at_ + 2, h2, fun _ => ⟨by omega, by omega⟩, by omega⟩
 rw [Dr1 g3]
 by_cases g4 : c = 102
 ·rw [Dr2 g4]; exact ⟨at_ + 2, h2, fun _ => ⟨by omega, by omega⟩, by omega⟩
 rw [Dr1 g4]
 by_cases g5 : c = 118
 ·rw [Dr2 g5]; exact ⟨at_ + 2, h2, fun _ => ⟨by omega, by omega⟩, by omega⟩
 rw [Dr1 g5]
 by_cases g6 : c = 100 ∨ c = 68
 ·rw [Dr2 g6]; exact ⟨at_ + 2, h2, fun _ => ⟨by omega, by omega⟩, by omega⟩
 rw [Dr1 g6]
 by_cases g7 : c = 119 ∨ c = 87
 ·rw [Dr2 g7]; exact ⟨at_ + 2, h2, fun _ => ⟨by omega, by omega⟩, by omega⟩
 rw [Dr1 g7]
 by_cases g8 : c = 115 ∨ c = 83
 ·rw [Dr2 g8]; exact ⟨at_ + 2, h2, fun _ => ⟨by omega, by omega⟩, by omega⟩
 rw [Dr1 g8]
 by_cases gx : c = 120
 ·rw [Dr2 gx]
  cases hx : Bi1 L (at_ + 2) 2 0 with
  | inl n => have := hex.1 _ hx; exact ⟨at_ + 4, by show (at_ : Int) + 4 = _; omega, fun _ => ⟨by omega, by omega⟩, by omega⟩
  | inr i => have := hex.2 _ hx; exact ⟨i, rfl, fun h => (by cases h), by omega⟩
 rw [Dr1 gx]
 by_cases gu : c ∈ C2 unT
 ·rw [Dr2 gu]; exact ⟨at_, rfl, fun h => (by cases h), by omega⟩
 rw [Dr1 gu]
 exact ⟨at_ + 1, by show (at_ : Int) + 1 = _; omega, fun h => (by cases h), by omega⟩
theorem Aq2 (L : List Nat) (at_ : Nat) : ∃ i : Nat, (Ae8 L at_).2.1 = (i : Int) ∧ ((Ae8 L at_).2.2 = 0 → at_ + 1 ≤ i ∧ i ≤ L.length) ∧ i ≤ L.length + at_ + 1 := by
 unfold Ae8
 by_cases h1 : L.length ≤ at_ ∨ L.getD at_ 0 ∈ C2 clsT
 ·rw [Dr2 h1]; exact ⟨_, rfl, fun h => (by cases h), by omega⟩
 rw [Dr1 h1]
 by_cases h2 : L.getD at_ 0 = 92
 ·rw [Dr2 h2]
  obtain ⟨i, h3, h4, h5⟩ := Cr4 L at_
  exact ⟨i, h3, fun h => ⟨by have := (h4 h).1; omega, (h4 h).2⟩, h5⟩
 ·rw [Dr1 h2]
  exact ⟨at_ + 1, by show (at_ : Int) + 1 = _; omega, fun _ => ⟨by omega, by have := Dz6.1 h1; omega⟩, by omega⟩
def Db8 (f g : Nat → Bool) (k : Nat) : List Bool := (List.range 256).map fun b => if b < k then f b else g b
theorem K9 (f g : Nat → Bool) (k : Nat) : (Db8 f g k).length = 256 := by simp [Db8]
theorem Cq0 (f g : Nat → Bool) (k : Nat) (hk : k < 256) : (Db8 f g k).getD k false = g k := by
 simp [Db8, Dr3, hk]
theorem Ay9 (f g : Nat → Bool) (k : Nat) : (Db8 f g k).set k (f k) = Db8 f g (k + 1) := by
 apply Ds9
 intro j
 simp only [Db8, Dt5, Dt6, Dx3, Dy3]
 by_cases hj : k = j
 ·subst hj
  by_cases h : k < 256
  ·simp [h]
  ·simp [Dt3 (l := List.range 256) (i := k) (by simp; omega), h]
 ·simp only [Dr1 hj]
  by_cases h : j < 256
  ·simp only [Dt9 h, Du4]
   congr 1
   by_cases h2 : j < k
   ·simp [h2, show j < k + 1 by omega]
   ·simp [h2, show ¬ j < k + 1 by omega]
  ·simp [Dt3 (l := List.range 256) (i := j) (by simp; omega)]
theorem Ch3 {f g : Nat → Bool} {k : Nat} {on : List Bool} (h : on.length = 256) (hf : ∀ b, b < k → f b = on.getD b false) (hg : ∀ b, g b = on.getD b false) : Db8 f g k = on := by
 apply Ds9
 intro j
 simp only [Db8, Dt6]
 by_cases hj : j < 256
 ·simp only [Dt9 hj, Du4]
  rw [Dr5 (by omega)]
  congr 1
  have e : on[j] = on.getD j false := by rw [Dr3, Dr5 (by omega)]; rfl
  rw [e]
  split
  ·exact hf j ‹_›
  ·exact hg j
 ·rw [Dt3 (l := List.range 256) (i := j) (by simp; omega), Dt3 (l := on) (i := j) (by omega)]; rfl
def orS (on : List Bool) (s : Nat) (k : Nat) : List Bool := Db8 (fun b => on.getD b false || s.testBit b) (fun b => on.getD b false) k
def Bt6 (on : List Bool) (a : Nat) (k : Nat) : List Bool := Db8 (fun b => decide (a ≤ b) || on.getD b false) (fun b => on.getD b false) k
def Cw9 (on : List Bool) (k : Nat) : List Bool := Db8 (fun b => !on.getD b false) (fun b => on.getD b false) k
theorem orS_zero {on : List Bool} (h : on.length = 256) (s : Nat) : orS on s 0 = on := Ch3 h (fun b hb => by omega) (fun _ => rfl)
theorem Dg8 {on : List Bool} (h : on.length = 256) : Cw9 on 0 = on := Ch3 h (fun b hb => by omega) (fun _ => rfl)
theorem Cy6 {on : List Bool} (h : on.length = 256) (a : Nat) : Bt6 on a a = on := Ch3 h (fun b hb => by rw [Ds4 (by omega), Dy7]) (fun _ => rfl)
def An6 (L : List Nat) (on : List Bool) (i : Nat) : (Int × Int) ⊕ (List Bool × Nat) :=
 let x := Ae8 L i
 if x.2.2 ≠ 0 then .inl x.2 else
 let i1 := x.2.1.toNat
 let on1 := orS on x.1 256
 if L.length ≤ i1 ∨ L.getD i1 0 ≠ 45 then .inr (on1, i1) else
 let a := Ag7 x.1
 if a < 0 then .inl ((i1 : Int), 4) else
 let y := Ae8 L (i1 + 1)
 if y.2.2 ≠ 0 then .inl y.2 else
 let b := Ag7 y.1
 if b < 0 then .inl ((i1 : Int) + 1, 4) else
 if b < a then .inl ((i : Int), 5) else
 .inr (Bt6 on1 a.toNat (b.toNat + 1), y.2.1.toNat)
def Do2 (L : List Nat) : Nat → Bool → List Bool → Nat → (Int × Int) ⊕ (List Bool × Nat)
 | 0, _, _, _ => .inl (0, 4)
 | f + 1, first, on, i =>
  if first = true ∨ L.length ≤ i ∨ L.getD i 0 ≠ 93 then
   match An6 L on i with
   | .inl e => .inl e
   | .inr (on', i') => Do2 L f false on' i'
  else .inr (on, i)
def negR (L : List Nat) (at_ : Nat) : Bool := decide (at_ + 1 < L.length ∧ L.getD (at_ + 1) 0 = 94)
def Bf5 (L : List Nat) (at_ : Nat) : Nat × Int × Int :=
 let neg := negR L at_
 match Do2 L (L.length + 2) true (List.replicate 256 false) (at_ + 1 + if neg then 1 else 0) with
 | .inl e => (0, e)
 | .inr (on, i) => (onS (if neg then Cw9 on 256 else on), (i : Int) + 1, 0)
theorem rclass_c (s : ByteArray) (hs : s.size ≤ 1000) (at_ : Nat) (hat : at_ < s.size) (w : World) : Calls P 169 #[.string s, .int .i64 (at_ : Nat)] w (Ret (EscR (Bf5 (C2 s) at_) w)) := by
 have hC := A8 [] w
 have hsl := E7 s
 refine D3 Tryz.func169 rfl rfl (Qd (B4 rfl (B6 K5 rfl) ?_))
 intro b1 w1 hb1 hs1 hx1 hB1
 refine B4 rfl (B6 I7 rfl) ?_
 intro b2 w2 hb2 hs2 hx2 hB2
 have hC := hC.s0 (hx1.s0 hx2)
 have hB1 := hB1.u hx2
 refine Qc (Qd (Z 1 rfl (Ad rfl rfl (by omega) (Zc 1 rfl (I1 (fun e9 wr => Sub [(0, .string s), (1, .int .i64 at_), (4, .pointer (some ⟨b1, 0, none⟩)), (5, .pointer (some ⟨b2, 0, none⟩)), (6, .int .i64 ((at_ + 1 : Nat) : Int)), (7, .bool (negR (C2 s) at_))] e9 ∧ Chg [] w wr ∧ Blk wr b1 (C1 0) 70 ∧ Blk wr b2 [.int .i64 0, .int .i64 0] 232) ?_ ?_)))))
 ·refine Qb (Z 2 rfl (C7 rfl (F4 Tryz.underlying9 rfl) (Z 2 rfl (B7 (d := 26) rfl (fun n1 => ?_) (fun n1 => ?_)))))
  ·try simp at n1
   have hin : at_ + 1 < s.size := by omega
   obtain ⟨u8, hu, hu2⟩ := I4 s (at_ + 1) hin
   refine Qu rfl (Z 1 rfl (Qu rfl (Z 1 rfl (Qu rfl (C7 rfl (Does.to (E8 Tryz.underlying9 rfl rfl (by omega) (by exact hu)) (I9 (show ((u8.toNat : Nat) : Int) = (((C2 s).getD (at_ + 1) 0 : Nat) : Int) by rw [hu2]))) ?_)))))
   refine Qu rfl (Zc 3 rfl ⟨⟨rfl, rfl, rfl, rfl, (F9 rfl (by omega)), (G9 rfl (by unfold negR; rw [Ds6, cmpB_eql, Ds5]; omega)), trivial⟩, ?_⟩)
   exact ⟨hC, by rw [C3]; exact hB1, hB2⟩
  ·try simp at n1
   refine Qk rfl (Qk rfl (Qk rfl (Qk rfl (Zc 2 rfl ⟨⟨rfl, rfl, rfl, rfl, (F9 rfl (by omega)), (G9 rfl (by unfold negR; symm; rw [decide_eq_false_iff_not]; omega)), trivial⟩, ?_⟩))))
   exact ⟨hC, by rw [C3]; exact hB1, hB2⟩
 rintro e9 w9 ⟨hs9, hC, hB1, hB2⟩
 refine I0 _ hs9 ?_
 clear hs9 e9
 have hE : Bf5 (C2 s) at_ = Bf5 (C2 s) at_ := rfl
 conv at hE => rhs; unfold Bf5
 simp only [] at hE
 generalize hneg : negR (C2 s) at_ = neg at *
 obtain ⟨i0, hi0, hi0b⟩ : ∃ i0, i0 = at_ + 1 + (if neg = true then 1 else 0) ∧ i0 ≤ at_ + 2 := ⟨_, rfl, by split <;> omega⟩
 rw [← hi0] at hE
 refine I1 (fun e9 wr => Sub [(0, .string s), (1, .int .i64 at_), (4, .pointer (some ⟨b1, 0, none⟩)), (5, .pointer (some ⟨b2, 0, none⟩)), (6, .int .i64 i0), (7, .bool neg)] e9 ∧ Chg [] w wr ∧ Blk wr b1 (C1 0) 70 ∧ Blk wr b2 [.int .i64 0, .int .i64 0] 232) ?_ ?_
 ·refine Qd (Zc 1 rfl (A4 rfl (fun n2 => ?_) (fun n2 => ?_)))
  ·refine Qb (Z 1 rfl (Ad rfl rfl (by omega) (Zc 1 rfl ⟨⟨rfl, rfl, rfl, rfl, (F9 rfl (by rw [hi0, Dr2 n2]; omega)), rfl, trivial⟩, ?_⟩)))
   exact ⟨hC, hB1, hB2⟩
  ·refine A7 ⟨⟨rfl, rfl, rfl, rfl, (F9 rfl (by rw [hi0, Dr1 (by rw [n2]; simp)])), rfl, trivial⟩, ?_⟩
   exact ⟨hC, hB1, hB2⟩
 rintro e9 w9 ⟨hs9, hC, hB1, hB2⟩
 refine I0 _ hs9 ?_
 clear hs9 e9
 try have hlB2 := hB2.lt
 refine Qd (B4 rfl (L8 el43 zr4 rfl (cs := U2 (List.replicate 256 false)) (by omega) (by omega) (by show (madeCells #[_] (Int.toNat 256 * 1)).toList = _; rw [P9]; simp [U2])) ?_)
 intro b3 w3 hb3 hs3 hx3 hB3
 have hC := hC.s0 hx3
 have hB1 := hB1.u hx3
 have hB2 := hB2.u hx3
 generalize hr : Do2 (C2 s) ((C2 s).length + 2) true (List.replicate 256 false) i0 = r at *
 refine Zc 1 rfl (Qa (Qd (Zc 1 rfl (B0 (D7 (σ := Nat × Bool × List Bool × Nat) (fun (f, fi, on, i) => [(0, .string s), (1, .int .i64 at_), (4, .pointer (some ⟨b1, 0, none⟩)), (5, .pointer (some ⟨b2, 0, none⟩)), (6, .int .i64 i), (7, .bool neg), (8, .slice (some ⟨b3, 0, none⟩) 256 256), (9, .bool fi)]) (fun (f, fi, on, i) wr => Chg [] w wr ∧ Blk wr b1 (C1 0) 70 ∧ Blk wr b2 [.int .i64 0, .int .i64 0] 232 ∧ Blk wr b3 (U2 on) 4 ∧ on.length = 256 ∧ Do2 (C2 s) f fi on i = r ∧ (C2 s).length + 2 ≤ f + i ∧ i ≤ s.size + 2 ∧ (fi = true → 2 ≤ f) ∧ (fi = false → i ≤ s.size)) (fun (f, fi, on, i) wr => f) ((C2 s).length + 2, true, List.replicate 256 false, i0) (sb rfl) ?_ ?_)))))
 ·exact ⟨hC, hB1, hB2, hB3, by simp, hr, by omega, by omega, fun _ => by omega, fun h => by cases h⟩
 rintro ⟨f, fi, on, i⟩ w9 ⟨hC, hB1, hB2, hB3, hol, hN, hf, hi, hfi, hfn⟩
 have hf1 : ∃ g, f = g + 1 := by
  cases fi with
  | true => exact ⟨f - 1, by have := hfi rfl; omega⟩
  | false => exact ⟨f - 1, by have := hfn rfl; omega⟩
 obtain ⟨f, rfl⟩ := hf1
 rw [Do2] at hN
 refine I1 (fun e9 wr => Sub [(0, .string s), (1, .int .i64 at_), (4, .pointer (some ⟨b1, 0, none⟩)), (5, .pointer (some ⟨b2, 0, none⟩)), (6, .int .i64 i), (7, .bool neg), (8, .slice (some ⟨b3, 0, none⟩) 256 256)] e9 ∧ Chg [] w wr ∧ Blk wr b1 (C1 0) 70 ∧ Blk wr b2 [.int .i64 0, .int .i64 0] 232 ∧ Blk wr b3 (U2 on) 4 ∧ (fi = true ∨ (C2 s).length ≤ i ∨ (C2 s).getD i 0 ≠ 93)) ?_ ?_
 ·refine Qd (Z 2 rfl (B7 (d := 37) rfl (fun c1 => ?_) (fun c1 => ?_)))
  ·refine Qk rfl (Qk rfl (Qk rfl (Qk rfl (Z 2 rfl (Qk rfl (Qk rfl (Qk rfl (Qk rfl (Zc 1 rfl (E1 rfl (A7 ⟨(sb rfl), ?_⟩)))))))))))
   exact ⟨hC, hB1, hB2, hB3, .inl c1⟩
  ·refine Qu rfl (Z 1 rfl (Qu rfl (Z 1 rfl (Qu rfl (C7 rfl (F4 Tryz.underlying9 rfl) (Qu rfl (Z 3 rfl (B7 (d := 43) rfl (fun c2 => ?_) (fun c2 => ?_)))))))))
   ·try simp at c2
    refine Qk rfl (Qk rfl (Qk rfl (Qk rfl (Zc 1 rfl (E1 rfl (A7 ⟨(sb rfl), ?_⟩))))))
    exact ⟨hC, hB1, hB2, hB3, .inr (.inl (by omega))⟩
   ·try simp at c2
    have hin : i < s.size := by omega
    obtain ⟨u8, hu, hu2⟩ := I4 s i hin
    refine Qu rfl (Z 1 rfl (Qu rfl (Z 1 rfl (Qu rfl (C7 rfl (Does.to (E8 Tryz.underlying9 rfl rfl (by omega) (by exact hu)) (I9 (show ((u8.toNat : Nat) : Int) = (((C2 s).getD i 0 : Nat) : Int) by rw [hu2]))) ?_)))))
    refine Qu rfl (Zc 2 rfl (A4 rfl (fun c3 => ?_) (fun c3 => ?_)))
    ·rw [cmpB_neq] at c3
     refine A7 ⟨(sb rfl), ?_⟩
     exact ⟨hC, hB1, hB2, hB3, .inr (.inr (by omega))⟩
    ·rw [cmpB_neqF] at c3
     rw [Dr1 (by rw [c1]; simp only [Dz0, false_or, Dz6]; omega)] at hN
     rw [← hN] at hE
     simp only [] at hE
     refine Xb (Qa (Qd (Zc 1 rfl (B0 (D7 (σ := Nat) (fun k => [(0, .string s), (1, .int .i64 at_), (4, .pointer (some ⟨b1, 0, none⟩)), (5, .pointer (some ⟨b2, 0, none⟩)), (6, .int .i64 i), (7, .bool neg), (8, .slice (some ⟨b3, 0, none⟩) 256 256), (19, .int .i64 k)]) (fun k wr => Chg [] w wr ∧ Blk wr b1 (C1 0) 70 ∧ Blk wr b2 [.int .i64 0, .int .i64 0] 232 ∧ Blk wr b3 (U2 (if neg = true then Cw9 on k else on)) 4 ∧ k ≤ 256) (fun k wr => 256 - k) 0 (sb rfl) ?_ ?_)))))
     ·exact ⟨hC, hB1, hB2, by rw [Dg8 hol, ite_self]; exact hB3, Ds0 _⟩
     rintro k w8 ⟨hC, hB1, hB2, hB3, hk⟩
     refine Qa (Qd (Z 3 rfl (B7 (d := 135) rfl (fun d1 => ?_) (fun d1 => ?_))))
     ·try simp at d1
      have hk2 : k < 256 := by omega
      refine Qu rfl (Zc 2 rfl (A4 rfl (fun d2 => ?_) (fun d2 => ?_)))
      ·rw [Dr2 d2] at hB3
       have hrb := hB3.rd (F := fun _ => True) (sz := 1) (m := 256) (by rw [L7]; exact K9 _ _ _) trivial
       have hcb := (hrb.one (Bg1 (Cw9 on k) k (by unfold Cw9; rw [K9]; exact hk2))).2
       rw [show (Cw9 on k).getD k false = on.getD k false from Cq0 _ _ k hk2] at hcb
       refine A7 (Qa (B0 (Qb (Z 4 rfl (C7 rfl (B3 sl43 rfl rfl (by omega) (by omega)) (Lc o4 rfl hcb (Z 1 rfl (C7 rfl (B3 sl43 rfl rfl (by omega) (by omega)) (Pb (cs' := (U2 (Cw9 on (k + 1)))) sz4 rfl rfl hB3 rfl rfl rfl (by rw [L7, Dw7]; unfold Cw9; rw [K9]; omega) (by rw [Ds1, Dt2, U8 _ _ _ (by rw [L7]; unfold Cw9; rw [K9]; exact hk2), show Cw9 on (k + 1) = (Cw9 on k).set k (!on.getD k false) from (Ay9 _ _ k).symm]; unfold U2; rw [Dx7]) ?_)))))))))
       intro w4 hs4 hx4 hB3
       have hC := hC.step hx4 (by simp; omega)
       have hB1 := hB1.q hx4 (by simp; omega)
       have hB2 := hB2.q hx4 (by simp; omega)
       refine Qc (Qb (Z 1 rfl (Ad rfl rfl (by omega) (Zc 1 rfl ⟨k + 1, sb rfl, ?_, ?_⟩))))
       exact ⟨hC, hB1, hB2, by rw [Dr2 d2]; exact hB3, by omega⟩
       omega
      ·have hnf : ∀ q, (if neg = true then Cw9 on q else on) = on := fun q => Dr1 (by rw [d2]; simp)
       rw [hnf] at hB3
       refine Xb (Qd (Z 1 rfl (Ca fb200 rfl (Cf7 (fun x => x < w8.heap.size) on (some ⟨b3, 0, none⟩) 256 (hol) _ (fun x h => by have := hC.size; omega) (hB3.rd (by rw [L7]; exact hol) (by have := hB3.lt; exact this))) ?_)))
       rintro _ w5 ⟨rfl, hx5⟩
       have hB1 := hB1.u hx5
       refine Z 1 rfl (Ad rfl rfl (by omega) (C7 rfl (A9 I7 K0 rfl (by rfl)) ?_))
       refine Pe J1 rfl ‹_› rfl rfl ?_
       intro w6 hs6 hx6 hB1
       have hB2 := hB2.q (hx5.j hx6) (by simp <;> omega)
       refine Pe G1 rfl ‹_› rfl rfl ?_
       intro w7 hs7 hx7 hB2
       have hC := hC.step ((hx5.j hx6).j hx7) (by simp <;> omega)
       have hB1 := hB1.q hx7 (by simp; omega)
       refine Qc (A6 (C5 rfl rfl (A5 I5 ‹_› rfl rfl) rfl (A5 F3 ‹_› rfl rfl) ?_))
       exact ⟨hC, by rw [hE, hnf]; rfl⟩
     ·try simp at d1
      have hkk : k = 256 := by omega
      subst hkk
      refine Qk rfl (Zc 1 rfl (E3 rfl (Xb (Qd (Z 1 rfl (Ca fb200 rfl (Cf7 (fun x => x < w8.heap.size) (if neg = true then Cw9 on 256 else on) (some ⟨b3, 0, none⟩) 256 (by split; exact K9 _ _ _; exact hol) _ (fun x h => by have := hC.size; omega) (hB3.rd (by rw [L7]; split; exact K9 _ _ _; exact hol) (by have := hB3.lt; exact this))) ?_))))))
      rintro _ w8 ⟨rfl, hx8⟩
      have hB1 := hB1.u hx8
      refine Z 1 rfl (Ad rfl rfl (by omega) (C7 rfl (A9 I7 K0 rfl (by rfl)) ?_))
      refine Pe J1 rfl ‹_› rfl rfl ?_
      intro w9 hs9 hx9 hB1
      have hB2 := hB2.q (hx8.j hx9) (by simp <;> omega)
      refine Pe G1 rfl ‹_› rfl rfl ?_
      intro w10 hs10 hx10 hB2
      have hC := hC.step ((hx8.j hx9).j hx10) (by simp <;> omega)
      have hB1 := hB1.q hx10 (by simp; omega)
      refine Qc (A6 (C5 rfl rfl (A5 I5 ‹_› rfl rfl) rfl (A5 F3 ‹_› rfl rfl) ?_))
      exact ⟨hC, by rw [hE]; rfl⟩
 rintro e9 w8 ⟨hs9, hC, hB1, hB2, hB3, hgo⟩
 refine I0 _ hs9 ?_
 clear hs9 e9
 try have hlB2 := hB2.lt
 try have hlB3 := hB3.lt
 rw [Dr2 hgo] at hN
 have hip := Aq2 (C2 s) i
 unfold An6 at hN
 simp only [] at hN
 refine Qa (B0 (Qd (Zc 2 rfl (Qd (Z 2 rfl (Ca fb198 rfl (Df3 s hs i (by omega) _) ?_))))))
 rintro _ w11 ⟨hx11, rfl⟩
 have hz11 := hx11.size
 generalize Ae8 (C2 s) i = x at *
 obtain ⟨xs, xp, xe⟩ := x
 obtain ⟨i1, hi1, hi1b, hi1c⟩ := hip
 simp only [] at hi1 hi1b hi1c hN
 subst hi1
 refine Z 3 rfl (B4 rfl (B6 K5 rfl) ?_)
 intro b12 w12 hb12 hs12 hx12 hB12
 refine B4 rfl (B6 I7 rfl) ?_
 intro b13 w13 hb13 hs13 hx13 hB13
 have hB12 := hB12.u hx13
 refine Pe J1 rfl ‹_› rfl rfl ?_
 intro w14 hs14 hx14 hB12
 have hB13 := hB13.q hx14 (by simp; omega)
 refine Pe G1 rfl ‹_› rfl rfl ?_
 intro w15 hs15 hx15 hB13
 have hC := hC.step ((((hx11.j hx12).j hx13).j hx14).j hx15) (by simp <;> omega)
 have hB1 := hB1.q ((((hx11.j hx12).j hx13).j hx14).j hx15) (by simp <;> omega)
 have hB2 := hB2.q ((((hx11.j hx12).j hx13).j hx14).j hx15) (by simp <;> omega)
 have hB3 := hB3.q ((((hx11.j hx12).j hx13).j hx14).j hx15) (by simp <;> omega)
 have hB12 := hB12.q hx15 (by simp; omega)
 refine Qc (Qa (Qd (Fa Y9 rfl (Lb o3 rfl ‹_› (by rfl) ?_))))
 refine Zc 1 rfl (A4 rfl (fun e1 => ?_) (fun e1 => ?_))
 ·try simp at e1
  rw [Dr2 e1] at hN
  refine Qa (C6 (S := [b1]) 3 [(0, 0), (0, 1), (1, 2), (2, 3)] mo (by kernel_rfl) ?_)
  intro w16 hx16 hh16
  have hB1 := hB1.u hx16
  have hB13 := hB13.u hx16
  have hCS16 := A8 ([b1]) w16
  refine D5 rfl (D4 K5 An8 rfl (by rfl)) ?_
  refine D5 rfl (B8 F3 rfl ‹_› (by simp; omega) rfl rfl) ?_
  refine H1 (F8 J1 rfl rfl ‹_› rfl rfl rfl rfl rfl) ?_
  intro w17 hs17 hx17 hB1
  have hB2 := hB2.q (hx16.j hx17) (by simp <;> omega)
  have hCS16 := hCS16.step hx17 (by simp; done)
  refine ⟨hCS16, ?_⟩
  refine Pe G1 rfl ‹_› rfl rfl ?_
  intro w18 hs18 hx18 hB2
  have hC := hC.step ((hx16.j hx17).j hx18) (by simp <;> omega)
  have hB1 := hB1.q hx18 (by simp; omega)
  refine Qc (A6 (C5 rfl rfl (A5 I5 ‹_› rfl rfl) rfl (A5 F3 ‹_› rfl rfl) ?_))
  exact ⟨hC, by rw [hE, ← hN, C3]; rfl⟩
 ·try simp at e1
  have e1' : xe = 0 := by simpa using e1
  subst e1'
  rw [Dr1 (by simp)] at hN
  simp only [Ds1] at hN
  have hi2 := hi1b rfl
  refine A7 (Qd (Fa G0 rfl (Lb o3 rfl ‹_› (by rfl) ?_)))
  refine Zc 1 rfl (Qa (Qd (Zc 1 rfl (B0 (D7 (σ := Nat) (fun k => [(0, .string s), (1, .int .i64 at_), (4, .pointer (some ⟨b1, 0, none⟩)), (5, .pointer (some ⟨b2, 0, none⟩)), (6, .int .i64 i1), (7, .bool neg), (8, .slice (some ⟨b3, 0, none⟩) 256 256), (10, .int .i64 i), (11, .pointer (some ⟨b12, 0, none⟩)), (13, .int .i64 k)]) (fun k wr => Chg [] w wr ∧ Blk wr b1 (C1 0) 70 ∧ Blk wr b2 [.int .i64 0, .int .i64 0] 232 ∧ Blk wr b3 (U2 (orS on xs k)) 4 ∧ Blk wr b12 (C1 xs) 70 ∧ k ≤ 256) (fun k wr => 256 - k) 0 (sb rfl) ?_ ?_)))))
  ·exact ⟨hC, hB1, hB2, by rw [orS_zero hol]; exact hB3, hB12, Ds0 _⟩
  rintro k w7 ⟨hC, hB1, hB2, hB3, hB12, hk⟩
  try have hlB2 := hB2.lt
  try have hlB3 := hB3.lt
  try have hlB12 := hB12.lt
  refine Qa (Qd (Zc 2 rfl (A4 rfl (fun v1 => ?_) (fun v1 => ?_))))
  ·try simp at v1
   have hk2 : k < 256 := by omega
   have hrb := hB3.rd (F := fun _ => True) (sz := 1) (m := 256) (by rw [L7]; exact K9 _ _ _) trivial
   have hcb := (hrb.one (Bg1 (orS on xs k) k (by unfold orS; rw [K9]; exact hk2))).2
   rw [show (orS on xs k).getD k false = on.getD k false from Cq0 _ _ k hk2] at hcb
   refine A7 (Qa (B0 (Qb (Z 4 rfl (C7 rfl (B3 sl43 rfl rfl (by omega) (by omega)) (Lc o4 rfl hcb (Z 1 rfl (B7 (d := 73) rfl (fun q1 => ?_) (fun q1 => ?_)))))))))
   ·refine Qk rfl (Qk rfl (Qk rfl (Z 1 rfl (C7 rfl (B3 sl43 rfl rfl (by omega) (by omega)) (Pb (cs' := (U2 (orS on xs (k + 1)))) sz4 rfl rfl hB3 rfl rfl rfl (by rw [L7, Dw7]; unfold orS; rw [K9]; omega) (by rw [Ds1, Dt2, U8 _ _ _ (by rw [L7]; unfold orS; rw [K9]; exact hk2), show orS on xs (k + 1) = (orS on xs k).set k (on.getD k false || xs.testBit k) from (Ay9 _ _ k).symm, q1]; unfold U2; rw [Dx7]; rfl) ?_)))))
    intro w19 hs19 hx19 hB3
    have hC := hC.step hx19 (by simp; omega)
    have hB1 := hB1.q hx19 (by simp; omega)
    have hB2 := hB2.q hx19 (by simp; omega)
    have hB12 := hB12.q hx19 (by simp; omega)
    refine Qc (Qb (Z 1 rfl (Ad rfl rfl (by omega) (Zc 1 rfl ⟨k + 1, sb rfl, ?_, ?_⟩))))
    exact ⟨hC, hB1, hB2, hB3, hB12, by omega⟩
    omega
   ·refine Qu rfl (La I5 rfl ‹_› rfl rfl ?_)
    refine Qu rfl (Z 1 rfl (Qu rfl (Ca fb52 rfl (rhas_c xs k hk2 _) ?_)))
    rintro _ w20 ⟨rfl, hx20⟩
    have hB3 := hB3.u hx20
    refine Z 1 rfl (C7 rfl (B3 sl43 rfl rfl (by omega) (by omega)) (Pb (cs' := (U2 (orS on xs (k + 1)))) sz4 rfl rfl hB3 rfl rfl rfl (by rw [L7, Dw7]; unfold orS; rw [K9]; omega) (by rw [Ds1, Dt2, U8 _ _ _ (by rw [L7]; unfold orS; rw [K9]; exact hk2), show orS on xs (k + 1) = (orS on xs k).set k (on.getD k false || xs.testBit k) from (Ay9 _ _ k).symm, q1]; unfold U2; rw [Dx7]; rfl) ?_))
    intro w21 hs21 hx21 hB3
    have hC := hC.step (hx20.j hx21) (by simp <;> omega)
    have hB1 := hB1.q (hx20.j hx21) (by simp <;> omega)
    have hB2 := hB2.q (hx20.j hx21) (by simp <;> omega)
    have hB12 := hB12.q (hx20.j hx21) (by simp <;> omega)
    refine Qc (Qb (Z 1 rfl (Ad rfl rfl (by omega) (Zc 1 rfl ⟨k + 1, sb rfl, ?_, ?_⟩))))
    exact ⟨hC, hB1, hB2, hB3, hB12, by omega⟩
    omega
  ·try simp at v1
   have hkk : k = 256 := by omega
   subst hkk
   refine Xb (Qa (Qd (Z 2 rfl (C7 rfl (F4 Tryz.underlying9 rfl) (Z 2 rfl (B7 (d := 83) rfl (fun u1 => ?_) (fun u1 => ?_)))))))
   ·try simp at u1
    rw [Dr2 (.inl (by omega))] at hN
    simp only [] at hN
    refine Qk rfl (Qk rfl (Qk rfl (Qk rfl (Zc 1 rfl (E1 rfl (Xb (Qb (Zc 1 rfl ⟨(f, false, orS on xs 256, i1), sb rfl, ?_, ?_⟩))))))))
    exact ⟨hC, hB1, hB2, hB3, K9 _ _ _, hN, by omega, by omega, fun h => (by cases h), fun _ => by omega⟩
    show f < f + 1
    omega
   ·try simp at u1
    have hin : i1 < s.size := by omega
    obtain ⟨u8, hu, hu2⟩ := I4 s i1 hin
    refine Qu rfl (Z 1 rfl (Qu rfl (Z 1 rfl (Qu rfl (C7 rfl (Does.to (E8 Tryz.underlying9 rfl rfl (by omega) (by exact hu)) (I9 (show ((u8.toNat : Nat) : Int) = (((C2 s).getD i1 0 : Nat) : Int) by rw [hu2]))) ?_)))))
    refine Qu rfl (Zc 2 rfl (A4 rfl (fun u2 => ?_) (fun u2 => ?_)))
    ·rw [cmpB_neq] at u2
     rw [Dr2 (.inr (by omega))] at hN
     simp only [] at hN
     refine Xb (Qb (Zc 1 rfl ⟨(f, false, orS on xs 256, i1), sb rfl, ?_, ?_⟩))
     exact ⟨hC, hB1, hB2, hB3, K9 _ _ _, hN, by omega, by omega, fun h => (by cases h), fun _ => by omega⟩
     show f < f + 1
     omega
    ·rw [cmpB_neqF] at u2
     rw [Dr1 (by omega)] at hN
     refine A7 (Qd (La I5 rfl ‹_› rfl rfl ?_))
     refine Ca fb199 rfl (Df0 xs _) ?_
     rintro _ w22 ⟨rfl, hx22⟩
     have hz22 := hx22.size
     have hC := hC.s0 hx22
     have hB1 := hB1.u hx22
     have hB2 := hB2.u hx22
     have hB3 := hB3.u hx22
     have har := Bc0 xs
     generalize Ag7 xs = a at *
     refine Zc 1 rfl (Qa (Qd (Zc 2 rfl (A4 rfl (fun a1 => ?_) (fun a1 => ?_)))))
     ·try simp at a1
      rw [Dr2 a1] at hN
      refine Qd (C7 rfl (D4 K5 An8 rfl (by rfl)) ?_)
      refine Z 1 rfl (C7 rfl (A9 I7 K0 rfl (by rfl)) ?_)
      refine Pe J1 rfl ‹_› rfl rfl ?_
      intro w23 hs23 hx23 hB1
      have hB2 := hB2.q hx23 (by simp; omega)
      refine Pe G1 rfl ‹_› rfl rfl ?_
      intro w24 hs24 hx24 hB2
      have hC := hC.step (hx23.j hx24) (by simp <;> omega)
      have hB1 := hB1.q hx24 (by simp; omega)
      refine Qc (A6 (C5 rfl rfl (A5 I5 ‹_› rfl rfl) rfl (A5 F3 ‹_› rfl rfl) ?_))
      exact ⟨hC, by rw [hE, ← hN, C3]; rfl⟩
     ·try simp at a1
      rw [Dr1 (by omega)] at hN
      have hip := Aq2 (C2 s) (i1 + 1)
      refine A7 (Qd (Z 2 rfl (Ad rfl rfl (by omega) (Ca fb198 rfl (Df3 s hs (i1 + 1) (by omega) _) ?_))))
      rintro _ w25 ⟨hx25, rfl⟩
      have hz25 := hx25.size
      generalize Ae8 (C2 s) (i1 + 1) = y at *
      obtain ⟨ys, yp, ye⟩ := y
      obtain ⟨i3, hi3, hi3b, hi3c⟩ := hip
      simp only [] at hi3 hi3b hi3c hN
      subst hi3
      refine Z 3 rfl (B4 rfl (B6 K5 rfl) ?_)
      intro b26 w26 hb26 hs26 hx26 hB26
      refine B4 rfl (B6 I7 rfl) ?_
      intro b27 w27 hb27 hs27 hx27 hB27
      have hB26 := hB26.u hx27
      refine Pe J1 rfl ‹_› rfl rfl ?_
      intro w28 hs28 hx28 hB26
      have hB27 := hB27.q hx28 (by simp; omega)
      refine Pe G1 rfl ‹_› rfl rfl ?_
      intro w29 hs29 hx29 hB27
      have hC := hC.step ((((hx25.j hx26).j hx27).j hx28).j hx29) (by simp <;> omega)
      have hB1 := hB1.q ((((hx25.j hx26).j hx27).j hx28).j hx29) (by simp <;> omega)
      have hB2 := hB2.q ((((hx25.j hx26).j hx27).j hx28).j hx29) (by simp <;> omega)
      have hB3 := hB3.q ((((hx25.j hx26).j hx27).j hx28).j hx29) (by simp <;> omega)
      have hB26 := hB26.q hx29 (by simp; omega)
      refine Qc (Qa (Qd (Fa Y9 rfl (Lb o3 rfl ‹_› (by rfl) ?_))))
      refine Zc 1 rfl (A4 rfl (fun e3 => ?_) (fun e3 => ?_))
      ·try simp at e3
       rw [Dr2 e3] at hN
       refine Qa (C6 (S := [b1]) 3 [(0, 0), (0, 1), (1, 2), (2, 3)] mo (by kernel_rfl) ?_)
       intro w30 hx30 hh30
       have hB1 := hB1.u hx30
       have hB27 := hB27.u hx30
       have hCS30 := A8 ([b1]) w30
       refine D5 rfl (D4 K5 An8 rfl (by rfl)) ?_
       refine D5 rfl (B8 F3 rfl ‹_› (by simp; omega) rfl rfl) ?_
       refine H1 (F8 J1 rfl rfl ‹_› rfl rfl rfl rfl rfl) ?_
       intro w31 hs31 hx31 hB1
       have hB2 := hB2.q (hx30.j hx31) (by simp <;> omega)
       have hCS30 := hCS30.step hx31 (by simp; done)
       refine ⟨hCS30, ?_⟩
       refine Pe G1 rfl ‹_› rfl rfl ?_
       intro w32 hs32 hx32 hB2
       have hC := hC.step ((hx30.j hx31).j hx32) (by simp <;> omega)
       have hB1 := hB1.q hx32 (by simp; omega)
       refine Qc (A6 (C5 rfl rfl (A5 I5 ‹_› rfl rfl) rfl (A5 F3 ‹_› rfl rfl) ?_))
       exact ⟨hC, by rw [hE, ← hN, C3]; rfl⟩
      ·try simp at e3
       have e3' : ye = 0 := by simpa using e3
       subst e3'
       rw [Dr1 (by simp)] at hN
       simp only [Ds1] at hN
       have hi4 := hi3b rfl
       refine A7 (Qd (La I5 rfl ‹_› rfl rfl ?_))
       refine Ca fb199 rfl (Df0 ys _) ?_
       rintro _ w33 ⟨rfl, hx33⟩
       have hC := hC.s0 hx33
       have hB1 := hB1.u hx33
       have hB2 := hB2.u hx33
       have hB3 := hB3.u hx33
       have hB27 := hB27.u hx33
       have hbr := Bc0 ys
       generalize Ag7 ys = b at *
       refine Zc 1 rfl (Qa (Qd (Zc 2 rfl (A4 rfl (fun f1 => ?_) (fun f1 => ?_)))))
       ·try simp at f1
        rw [Dr2 f1] at hN
        refine Qd (C7 rfl (D4 K5 An8 rfl (by rfl)) ?_)
        refine Z 1 rfl (Ad rfl rfl (by omega) (C7 rfl (A9 I7 K0 rfl (by rfl)) ?_))
        refine Pe J1 rfl ‹_› rfl rfl ?_
        intro w34 hs34 hx34 hB1
        have hB2 := hB2.q hx34 (by simp; omega)
        refine Pe G1 rfl ‹_› rfl rfl ?_
        intro w35 hs35 hx35 hB2
        have hC := hC.step (hx34.j hx35) (by simp <;> omega)
        have hB1 := hB1.q hx35 (by simp; omega)
        refine Qc (A6 (C5 rfl rfl (A5 I5 ‹_› rfl rfl) rfl (A5 F3 ‹_› rfl rfl) ?_))
        exact ⟨hC, by rw [hE, ← hN, C3]; rfl⟩
       ·try simp at f1
        rw [Dr1 (by omega)] at hN
        refine A7 (Qa (Qd (Zc 3 rfl (A4 rfl (fun f2 => ?_) (fun f2 => ?_)))))
        ·try simp at f2
         rw [Dr2 f2] at hN
         refine Qd (C7 rfl (D4 K5 An8 rfl (by rfl)) ?_)
         refine Z 1 rfl (C7 rfl (A9 I7 K0 rfl (by rfl)) ?_)
         refine Pe J1 rfl ‹_› rfl rfl ?_
         intro w36 hs36 hx36 hB1
         have hB2 := hB2.q hx36 (by simp; omega)
         refine Pe G1 rfl ‹_› rfl rfl ?_
         intro w37 hs37 hx37 hB2
         have hC := hC.step (hx36.j hx37) (by simp <;> omega)
         have hB1 := hB1.q hx37 (by simp; omega)
         refine Qc (A6 (C5 rfl rfl (A5 I5 ‹_› rfl rfl) rfl (A5 F3 ‹_› rfl rfl) ?_))
         exact ⟨hC, by rw [hE, ← hN, C3]; rfl⟩
        ·try simp at f2
         rw [Dr1 (by omega)] at hN
         obtain ⟨a, rfl⟩ := Dw3 (show 0 ≤ a by omega)
         obtain ⟨b, rfl⟩ := Dw3 (show 0 ≤ b by omega)
         simp only [Ds1] at hN
         refine A7 (Qa (Qd (Zc 2 rfl (B0 (D7 (σ := Nat) (fun c => [(0, .string s), (1, .int .i64 at_), (4, .pointer (some ⟨b1, 0, none⟩)), (5, .pointer (some ⟨b2, 0, none⟩)), (7, .bool neg), (8, .slice (some ⟨b3, 0, none⟩) 256 256), (16, .pointer (some ⟨b27, 0, none⟩)), (17, .int .i64 (b : Nat)), (18, .int .i64 c)]) (fun c wr => Chg [] w wr ∧ Blk wr b1 (C1 0) 70 ∧ Blk wr b2 [.int .i64 0, .int .i64 0] 232 ∧ Blk wr b3 (U2 (Bt6 (orS on xs 256) a c)) 4 ∧ Blk wr b27 [.int .i64 (i3 : Nat), .int .i64 0] 232 ∧ a ≤ c ∧ c ≤ b + 1) (fun c wr => b + 1 - c) a (sb rfl) ?_ ?_)))))
         ·exact ⟨hC, hB1, hB2, by rw [Cy6 (on := orS on xs 256) (K9 _ _ _)]; exact hB3, hB27, Ds3 _, by omega⟩
         rintro c w6 ⟨hC, hB1, hB2, hB3, hB27, hca, hcb⟩
         refine Qa (Qd (Zc 3 rfl (A4 rfl (fun g1 => ?_) (fun g1 => ?_))))
         ·try simp at g1
          have hc2 : c < 256 := by omega
          refine A7 (Qa (B0 (Qb (Z 2 rfl (C7 rfl (B3 sl43 rfl rfl (by omega) (by omega)) (Pb (cs' := (U2 (Bt6 (orS on xs 256) a (c + 1)))) sz4 rfl rfl hB3 rfl rfl rfl (by rw [L7, Dw7]; unfold Bt6; rw [K9]; omega) (by rw [Ds1, Dt2, U8 _ _ _ (by rw [L7]; unfold Bt6; rw [K9]; exact hc2), show Bt6 (orS on xs 256) a (c + 1) = (Bt6 (orS on xs 256) a c).set c (decide (a ≤ c) || (orS on xs 256).getD c false) from (Ay9 _ _ c).symm, Ds2 hca, Bool.true_or]; unfold U2; rw [Dx7]) ?_))))))
          intro w38 hs38 hx38 hB3
          have hC := hC.step hx38 (by simp; omega)
          have hB1 := hB1.q hx38 (by simp; omega)
          have hB2 := hB2.q hx38 (by simp; omega)
          have hB27 := hB27.q hx38 (by simp; omega)
          refine Qc (Qb (Z 1 rfl (Ad rfl rfl (by omega) (Zc 1 rfl ⟨c + 1, sb rfl, ?_, ?_⟩))))
          exact ⟨hC, hB1, hB2, hB3, hB27, by omega, by omega⟩
          show b + 1 - (c + 1) < b + 1 - c
          omega
         ·try simp at g1
          have hcc : c = b + 1 := by omega
          subst hcc
          refine Xb (Qb (Fa G0 rfl (Lb o3 rfl ‹_› (by rfl) ?_)))
          refine Zc 1 rfl (Qb (Zc 1 rfl ⟨(f, false, Bt6 (orS on xs 256) a (b + 1), i3), sb rfl, ?_, ?_⟩))
          exact ⟨hC, hB1, hB2, hB3, K9 _ _ _, hN, by omega, by omega, fun h => (by cases h), fun _ => by omega⟩
          show f < f + 1
          omega
structure RTk where
 kind : Int
 frm : Int
 till : Int
 set : Nat
 mn : Int
 mx : Int
 lz : Bool
deriving Inhabited
def Ao1 (t : RTk) : List Value := [.int .i64 t.kind, .int .i64 t.frm, .int .i64 t.till] ++ C1 t.set ++ [.int .i64 t.mn, .int .i64 t.mx, .bool t.lz]
def endC (x : Int × Int) : List Value := [.int .i64 x.1, .int .i64 x.2]
def cntT : ByteArray := ⟨#[42, 43, 63, 123]⟩
def Da0 (L : List Nat) (t : RTk) (e : Int × Int) : RTk × Int × Int :=
 if e.2 ≠ 0 then (t, e) else
 let i := e.1.toNat
 let y : RTk × Nat := if i < L.length ∧ L.getD i 0 = 63 then ({ t with lz := true }, i + 1) else (t, i)
 (y.1, (y.2 : Int), if y.2 < L.length ∧ L.getD y.2 0 = 43 then 6 else 0)
def Cg6 (L : List Nat) (at_ : Nat) : RTk × Int × Int :=
 let c := L.getD at_ 0
 let e : Int × Int := ((at_ : Int) + 1, 0)
 let t : RTk := ⟨0, at_, 0, 0, 0, 0, false⟩
 if c = 92 then let x := Dm3 L at_; ({ t with set := x.1 }, x.2)
 else if c = 91 then let x := Bf5 L at_; ({ t with set := x.1 }, x.2)
 else if c = 40 then
  if at_ + 1 < L.length ∧ L.getD (at_ + 1) 0 = 63 then ({ t with kind := 2 }, if L.length ≤ at_ + 2 ∨ L.getD (at_ + 2) 0 ≠ 58 then ((at_ : Int), 6) else ((at_ : Int) + 3, 0))
  else ({ t with kind := 1 }, e)
 else if c = 41 then ({ t with kind := 3 }, e)
 else if c = 124 then ({ t with kind := 4 }, e)
 else if c = 46 then ({ t with set := smS [(10, 10)] true }, e)
 else if c = 94 ∨ c = 36 then (t, (at_ : Int), 6)
 else if c = 93 ∨ c = 125 then (t, (at_ : Int), 4)
 else if c ∉ C2 cntT then ({ t with set := smS [((c : Int), (c : Int))] false }, e)
 else
  let t5 : RTk := { t with kind := 5, mx := -1 }
  if c = 43 then Da0 L { t5 with mn := 1 } e
  else if c = 63 then Da0 L { t5 with mx := 1 } e
  else if c = 123 then let b := P4 L (at_ + 1); Da0 L { t5 with mn := b.1, mx := b.2.1 } b.2.2
  else Da0 L t5 e
def Aa1 (L : List Nat) : Nat → Nat → List RTk → List RTk × Int × Int
 | 0, _, l => (l, (l.length : Int), 0)
 | f + 1, at_, l =>
  if at_ < L.length then
   let x := Cg6 L at_
   if x.2.2 ≠ 0 then ([], x.2) else Aa1 L f x.2.1.toNat (l ++ [{ x.1 with till := x.2.1 }])
  else (l, (l.length : Int), 0)
def M5 (L : List Nat) : List RTk × Int × Int := Aa1 L (L.length + 1) 0 []
theorem Au7 (L : List Nat) (m n : Int) (i : Nat) : ∃ j : Nat, (N3 L m n i).2.2.1 = (j : Int) ∧ j ≤ i + 1 := by
 unfold N3
 by_cases h : L.length ≤ i ∨ L.getD i 0 ≠ 125
 ·rw [Dr2 h]; exact ⟨i, rfl, by omega⟩
 ·rw [Dr1 h]; exact ⟨i + 1, by show (i : Int) + 1 = _; omega, by omega⟩
theorem Cl7 (L : List Nat) (hL : ∀ b ∈ L, b < 256) (at_ : Nat) : ∃ j : Nat, (P4 L at_).2.2.1 = (j : Int) ∧ j ≤ L.length + at_ + 3 := by
 obtain ⟨_, _, i, hi, _, hi2⟩ := P6 L hL at_
 unfold P4
 simp only []
 generalize J5 L at_ = a at *
 obtain ⟨m, p, e⟩ := a
 simp only [] at hi
 subst hi
 simp only [Ds1]
 by_cases h1 : e ≠ 0
 ·rw [Dr2 h1]; exact ⟨i, rfl, by omega⟩
 rw [Dr1 h1]
 by_cases h2 : i < L.length ∧ L.getD i 0 = 44
 ·rw [Dr2 h2]
  by_cases h3 : L.length ≤ i + 1 ∨ L.getD (i + 1) 0 ≠ 125
  ·rw [Dr2 h3]
   obtain ⟨_, _, k, hk, _, hk2⟩ := P6 L hL (i + 1)
   generalize J5 L (i + 1) = b at *
   obtain ⟨m2, p2, e2⟩ := b
   simp only [] at hk
   subst hk
   simp only [Ds1]
   by_cases h4 : e2 ≠ 0
   ·rw [Dr2 h4]; exact ⟨k, rfl, by omega⟩
   rw [Dr1 h4]
   by_cases h5 : m2 < m
   ·rw [Dr2 h5]; exact ⟨i + 1, by show (i : Int) + 1 = _; omega, by omega⟩
   rw [Dr1 h5]
   obtain ⟨j, hj, hj2⟩ := Au7 L m m2 k
   exact ⟨j, hj, by omega⟩
  ·rw [Dr1 h3]
   obtain ⟨j, hj, hj2⟩ := Au7 L m (-1) (i + 1)
   exact ⟨j, hj, by omega⟩
 ·rw [Dr1 h2]
  obtain ⟨j, hj, hj2⟩ := Au7 L m m i
  exact ⟨j, hj, by omega⟩
def OneR (r : RTk × Int × Int) (w : World) (u : Value) (w' : World) : Prop := Chg [] w w' ∧ u = .tuple #[.agg (Ao1 r.1).toArray, endV r.2]
theorem rone_c (s : ByteArray) (hs : s.size ≤ 1000) (at_ : Nat) (hat : at_ < s.size) (w : World) : Calls P 145 #[.string s, .int .i64 (at_ : Nat)] w (Ret (OneR (Cg6 (C2 s) at_) w)) := by
 have hC := A8 [] w
 have hsl := E7 s
 have hlt := W5 s
 obtain ⟨u8, hu, hu2⟩ := I4 s at_ hat
 have hb := hlt _ (H4 (C2 s) 0 at_ (by omega))
 refine D3 Tryz.func145 rfl rfl (Qd (B4 rfl (B6 Ce5 rfl) ?_))
 intro b1 w1 hb1 hs1 hx1 hB1
 refine B4 rfl (B6 I7 rfl) ?_
 intro b2 w2 hb2 hs2 hx2 hB2
 refine Qc (Qd (Z 2 rfl (C7 rfl (Does.to (E8 Tryz.underlying9 rfl rfl (by omega) (by exact hu)) (I9 (show ((u8.toNat : Nat) : Int) = (((C2 s).getD at_ 0 : Nat) : Int) by rw [hu2]))) ?_)))
 have hE : Cg6 (C2 s) at_ = Cg6 (C2 s) at_ := rfl
 conv at hE => rhs; unfold Cg6
 simp only [] at hE
 generalize hc : (C2 s).getD at_ 0 = c at *
 refine Zc 1 rfl (Qd (Z 1 rfl (Ad rfl rfl (by omega) (C7 rfl (A9 I7 K0 rfl (by rfl)) ?_))))
 refine B4 rfl (B6 I7 rfl) ?_
 intro b3 w3 hb3 hs3 hx3 hB3
 refine Pe G1 rfl ‹_› rfl rfl ?_
 intro w4 hs4 hx4 hB3
 refine Qc (Qd (Z 1 rfl (C7 rfl (A9 Ce5 pl231 rfl (by rfl)) ?_)))
 refine B4 rfl (B6 Ce5 rfl) ?_
 intro b5 w5 hb5 hs5 hx5 hB5
 refine Pe T0 rfl ‹_› rfl rfl ?_
 intro w6 hs6 hx6 hB5
 have hC := hC.step (((((hx1.j hx2).j hx3).j hx4).j hx5).j hx6) (by simp <;> omega)
 have hB1 := hB1.q ((((hx2.j hx3).j hx4).j hx5).j hx6) (by simp <;> omega)
 have hB2 := hB2.q (((hx3.j hx4).j hx5).j hx6) (by simp <;> omega)
 have hB3 := hB3.q (hx5.j hx6) (by simp <;> omega)
 refine Qc (Qa (Qd (Zc 1 rfl (B0 (Qd (Zc 2 rfl (A4 rfl (fun c1 => ?_) (fun c1 => ?_))))))))
 ·try simp at c1
  rw [Dr2 (by omega)] at hE
  refine Qd (Z 2 rfl (Ca fb168 rfl (resc_c s hs at_ (by omega) _) ?_))
  rintro _ w7 ⟨hx7, rfl⟩
  have hB5 := hB5.u hx7
  refine Z 3 rfl (Fa Bd8 rfl (Pe J1 rfl ‹_› rfl rfl ?_))
  intro w8 hs8 hx8 hB5
  have hB3 := hB3.q (hx7.j hx8) (by simp <;> omega)
  refine Pe G1 rfl ‹_› rfl rfl ?_
  intro w9 hs9 hx9 hB3
  refine Qc (Qa (C6 (S := [b1]) 3 [(0, 0), (0, 1), (1, 2), (2, 3)] mo (by kernel_rfl) ?_))
  intro w10 hx10 hh10
  have hB1 := hB1.q (((hx7.j hx8).j hx9).j hx10) (by simp <;> omega)
  have hB3 := hB3.u hx10
  have hB5 := hB5.q (hx9.j hx10) (by simp <;> omega)
  have hCS10 := A8 ([b1]) w10
  refine D5 rfl (B8 J3 rfl ‹_› (by simp; omega) rfl rfl) ?_
  refine D5 rfl (B8 F3 rfl ‹_› (by simp; omega) rfl rfl) ?_
  refine H1 (F8 T0 rfl rfl ‹_› rfl rfl rfl rfl rfl) ?_
  intro w11 hs11 hx11 hB1
  have hB2 := hB2.q ((((hx7.j hx8).j hx9).j hx10).j hx11) (by simp <;> omega)
  have hCS10 := hCS10.step hx11 (by simp; done)
  refine ⟨hCS10, ?_⟩
  refine Pe G1 rfl ‹_› rfl rfl ?_
  intro w12 hs12 hx12 hB2
  have hC := hC.step (((((hx7.j hx8).j hx9).j hx10).j hx11).j hx12) (by simp <;> omega)
  have hB1 := hB1.q hx12 (by simp; omega)
  refine Qc (A6 (C5 rfl rfl (A5 J3 ‹_› rfl rfl) rfl (A5 F3 ‹_› rfl rfl) ?_))
  exact ⟨hC, by rw [hE]; rfl⟩
 ·try simp at c1
  rw [Dr1 (by omega)] at hE
  refine Qd (Zc 2 rfl (A4 rfl (fun c2 => ?_) (fun c2 => ?_)))
  ·try simp at c2
   rw [Dr2 (by omega)] at hE
   refine Qd (Z 2 rfl (Ca fb169 rfl (rclass_c s hs at_ hat _) ?_))
   rintro _ w13 ⟨hx13, rfl⟩
   have hB5 := hB5.u hx13
   refine Z 3 rfl (Fa Bd8 rfl (Pe J1 rfl ‹_› rfl rfl ?_))
   intro w14 hs14 hx14 hB5
   have hB3 := hB3.q (hx13.j hx14) (by simp <;> omega)
   refine Pe G1 rfl ‹_› rfl rfl ?_
   intro w15 hs15 hx15 hB3
   refine Qc (Qa (C6 (S := [b1]) 3 [(0, 0), (0, 1), (1, 2), (2, 3)] mo (by kernel_rfl) ?_))
   intro w16 hx16 hh16
   have hB1 := hB1.q (((hx13.j hx14).j hx15).j hx16) (by simp <;> omega)
   have hB3 := hB3.u hx16
   have hB5 := hB5.q (hx15.j hx16) (by simp <;> omega)
   have hCS16 := A8 ([b1]) w16
   refine D5 rfl (B8 J3 rfl ‹_› (by simp; omega) rfl rfl) ?_
   refine D5 rfl (B8 F3 rfl ‹_› (by simp; omega) rfl rfl) ?_
   refine H1 (F8 T0 rfl rfl ‹_› rfl rfl rfl rfl rfl) ?_
   intro w17 hs17 hx17 hB1
   have hB2 := hB2.q ((((hx13.j hx14).j hx15).j hx16).j hx17) (by simp <;> omega)
   have hCS16 := hCS16.step hx17 (by simp; done)
   refine ⟨hCS16, ?_⟩
   refine Pe G1 rfl ‹_› rfl rfl ?_
   intro w18 hs18 hx18 hB2
   have hC := hC.step (((((hx13.j hx14).j hx15).j hx16).j hx17).j hx18) (by simp <;> omega)
   have hB1 := hB1.q hx18 (by simp; omega)
   refine Qc (A6 (C5 rfl rfl (A5 J3 ‹_› rfl rfl) rfl (A5 F3 ‹_› rfl rfl) ?_))
   exact ⟨hC, by rw [hE]; rfl⟩
  ·try simp at c2
   rw [Dr1 (by omega)] at hE
   refine Qd (Zc 2 rfl (A4 rfl (fun c3 => ?_) (fun c3 => ?_)))
   ·try simp at c3
    rw [Dr2 (by omega)] at hE
    refine Qd (Fa Q4 rfl (Pe sz3 rfl ‹_› rfl rfl ?_))
    intro w19 hs19 hx19 hB5
    have hC := hC.step hx19 (by simp; omega)
    have hB1 := hB1.q hx19 (by simp; omega)
    have hB2 := hB2.q hx19 (by simp; omega)
    have hB3 := hB3.q hx19 (by simp; omega)
    refine Qc (Qa (Qd (Z 1 rfl (Ad rfl rfl (by omega) (Z 1 rfl (C7 rfl (F4 Tryz.underlying9 rfl) (Z 2 rfl (B7 (d := 48) rfl (fun p1 => ?_) (fun p1 => ?_)))))))))
    ·try simp at p1
     have hin : at_ + 1 < s.size := by omega
     obtain ⟨u9, hu3, hu4⟩ := I4 s (at_ + 1) hin
     refine Qu rfl (Z 1 rfl (Qu rfl (Z 1 rfl (Qu rfl (Ad rfl rfl (by omega) (Qu rfl (C7 rfl (Does.to (E8 Tryz.underlying9 rfl rfl (by omega) (by exact hu3)) (I9 (show ((u9.toNat : Nat) : Int) = (((C2 s).getD (at_ + 1) 0 : Nat) : Int) by rw [hu4]))) ?_)))))))
     refine Qu rfl (Zc 2 rfl (A4 rfl (fun p2 => ?_) (fun p2 => ?_)))
     ·rw [cmpB_eql] at p2
      rw [Dr2 ⟨by omega, by omega⟩] at hE
      refine Qd (Fa Q4 rfl (Pe sz3 rfl ‹_› rfl rfl ?_))
      intro w20 hs20 hx20 hB5
      have hB3 := hB3.q hx20 (by simp; omega)
      refine Qc (Qd (Z 1 rfl (Ad rfl rfl (by omega) (C7 rfl (A9 I7 K0 rfl (by rfl)) ?_))))
      refine Pe G1 rfl ‹_› rfl rfl ?_
      intro w21 hs21 hx21 hB3
      have hC := hC.step (hx20.j hx21) (by simp <;> omega)
      have hB1 := hB1.q (hx20.j hx21) (by simp <;> omega)
      have hB2 := hB2.q (hx20.j hx21) (by simp <;> omega)
      have hB5 := hB5.q hx21 (by simp; omega)
      refine Qc (Qd (Z 1 rfl (Ad rfl rfl (by omega) (Z 1 rfl (C7 rfl (F4 Tryz.underlying9 rfl) (Z 2 rfl (B7 (d := 64) rfl (fun p3 => ?_) (fun p3 => ?_))))))))
      ·try simp at p3
       rw [Dr2 (.inl (by omega))] at hE
       refine Qk rfl (Qk rfl (Qk rfl (Qk rfl (Qk rfl (Zc 1 rfl (E1 rfl (Qb (Z 1 rfl (C7 rfl (A9 I7 K0 rfl (by rfl)) ?_)))))))))
       refine Pe G1 rfl ‹_› rfl rfl ?_
       intro w22 hs22 hx22 hB3
       refine Qc (Qa (C6 (S := [b1]) 3 [(0, 0), (0, 1), (1, 2), (2, 3)] mo (by kernel_rfl) ?_))
       intro w23 hx23 hh23
       have hB1 := hB1.q (hx22.j hx23) (by simp <;> omega)
       have hB3 := hB3.u hx23
       have hB5 := hB5.q (hx22.j hx23) (by simp <;> omega)
       have hCS23 := A8 ([b1]) w23
       refine D5 rfl (B8 J3 rfl ‹_› (by simp; omega) rfl rfl) ?_
       refine D5 rfl (B8 F3 rfl ‹_› (by simp; omega) rfl rfl) ?_
       refine H1 (F8 T0 rfl rfl ‹_› rfl rfl rfl rfl rfl) ?_
       intro w24 hs24 hx24 hB1
       have hB2 := hB2.q ((hx22.j hx23).j hx24) (by simp <;> omega)
       have hCS23 := hCS23.step hx24 (by simp; done)
       refine ⟨hCS23, ?_⟩
       refine Pe G1 rfl ‹_› rfl rfl ?_
       intro w25 hs25 hx25 hB2
       have hC := hC.step (((hx22.j hx23).j hx24).j hx25) (by simp <;> omega)
       have hB1 := hB1.q hx25 (by simp; omega)
       refine Qc (A6 (C5 rfl rfl (A5 J3 ‹_› rfl rfl) rfl (A5 F3 ‹_› rfl rfl) ?_))
       exact ⟨hC, by rw [hE]; unfold Ao1; simp only [C3]; rfl⟩
      ·try simp at p3
       have hin2 : at_ + 2 < s.size := by omega
       obtain ⟨v9, hv3, hv4⟩ := I4 s (at_ + 2) hin2
       refine Qu rfl (Z 1 rfl (Qu rfl (Z 1 rfl (Qu rfl (Ad rfl rfl (by omega) (Qu rfl (C7 rfl (Does.to (E8 Tryz.underlying9 rfl rfl (by omega) (by exact hv3)) (I9 (show ((v9.toNat : Nat) : Int) = (((C2 s).getD (at_ + 2) 0 : Nat) : Int) by rw [hv4]))) ?_)))))))
       refine Qu rfl (Zc 2 rfl (A4 rfl (fun p4 => ?_) (fun p4 => ?_)))
       ·rw [cmpB_neq] at p4
        rw [Dr2 (.inr (by omega))] at hE
        refine Qb (Z 1 rfl (C7 rfl (A9 I7 K0 rfl (by rfl)) ?_))
        refine Pe G1 rfl ‹_› rfl rfl ?_
        intro w26 hs26 hx26 hB3
        refine Qc (Qa (C6 (S := [b1]) 3 [(0, 0), (0, 1), (1, 2), (2, 3)] mo (by kernel_rfl) ?_))
        intro w27 hx27 hh27
        have hB1 := hB1.q (hx26.j hx27) (by simp <;> omega)
        have hB3 := hB3.u hx27
        have hB5 := hB5.q (hx26.j hx27) (by simp <;> omega)
        have hCS27 := A8 ([b1]) w27
        refine D5 rfl (B8 J3 rfl ‹_› (by simp; omega) rfl rfl) ?_
        refine D5 rfl (B8 F3 rfl ‹_› (by simp; omega) rfl rfl) ?_
        refine H1 (F8 T0 rfl rfl ‹_› rfl rfl rfl rfl rfl) ?_
        intro w28 hs28 hx28 hB1
        have hB2 := hB2.q ((hx26.j hx27).j hx28) (by simp <;> omega)
        have hCS27 := hCS27.step hx28 (by simp; done)
        refine ⟨hCS27, ?_⟩
        refine Pe G1 rfl ‹_› rfl rfl ?_
        intro w29 hs29 hx29 hB2
        have hC := hC.step (((hx26.j hx27).j hx28).j hx29) (by simp <;> omega)
        have hB1 := hB1.q hx29 (by simp; omega)
        refine Qc (A6 (C5 rfl rfl (A5 J3 ‹_› rfl rfl) rfl (A5 F3 ‹_› rfl rfl) ?_))
        exact ⟨hC, by rw [hE]; unfold Ao1; simp only [C3]; rfl⟩
       ·rw [cmpB_neqF] at p4
        rw [Dr1 (by omega)] at hE
        refine A7 (Qa (C6 (S := [b1]) 3 [(0, 0), (0, 1), (1, 2), (2, 3)] mo (by kernel_rfl) ?_))
        intro w30 hx30 hh30
        have hB1 := hB1.u hx30
        have hB3 := hB3.u hx30
        have hB5 := hB5.u hx30
        have hCS30 := A8 ([b1]) w30
        refine D5 rfl (B8 J3 rfl ‹_› (by simp; omega) rfl rfl) ?_
        refine D5 rfl (B8 F3 rfl ‹_› (by simp; omega) rfl rfl) ?_
        refine H1 (F8 T0 rfl rfl ‹_› rfl rfl rfl rfl rfl) ?_
        intro w31 hs31 hx31 hB1
        have hB2 := hB2.q (hx30.j hx31) (by simp <;> omega)
        have hCS30 := hCS30.step hx31 (by simp; done)
        refine ⟨hCS30, ?_⟩
        refine Pe G1 rfl ‹_› rfl rfl ?_
        intro w32 hs32 hx32 hB2
        have hC := hC.step ((hx30.j hx31).j hx32) (by simp <;> omega)
        have hB1 := hB1.q hx32 (by simp; omega)
        refine Qc (A6 (C5 rfl rfl (A5 J3 ‹_› rfl rfl) rfl (A5 F3 ‹_› rfl rfl) ?_))
        exact ⟨hC, by rw [hE]; unfold Ao1; simp only [C3]; rfl⟩
     ·rw [cmpB_eqlF] at p2
      rw [Dr1 (by omega)] at hE
      refine A7 (Qa (C6 (S := [b1]) 3 [(0, 0), (0, 1), (1, 2), (2, 3)] mo (by kernel_rfl) ?_))
      intro w33 hx33 hh33
      have hB1 := hB1.u hx33
      have hB3 := hB3.u hx33
      have hB5 := hB5.u hx33
      have hCS33 := A8 ([b1]) w33
      refine D5 rfl (B8 J3 rfl ‹_› (by simp; omega) rfl rfl) ?_
      refine D5 rfl (B8 F3 rfl ‹_› (by simp; omega) rfl rfl) ?_
      refine H1 (F8 T0 rfl rfl ‹_› rfl rfl rfl rfl rfl) ?_
      intro w34 hs34 hx34 hB1
      have hB2 := hB2.q (hx33.j hx34) (by simp <;> omega)
      have hCS33 := hCS33.step hx34 (by simp; done)
      refine ⟨hCS33, ?_⟩
      refine Pe G1 rfl ‹_› rfl rfl ?_
      intro w35 hs35 hx35 hB2
      have hC := hC.step ((hx33.j hx34).j hx35) (by simp <;> omega)
      have hB1 := hB1.q hx35 (by simp; omega)
      refine Qc (A6 (C5 rfl rfl (A5 J3 ‹_› rfl rfl) rfl (A5 F3 ‹_› rfl rfl) ?_))
      exact ⟨hC, by rw [hE]; unfold Ao1; simp only [C3]; rfl⟩
    ·try simp at p1
     rw [Dr1 (by omega)] at hE
     refine Qk rfl (Qk rfl (Qk rfl (Qk rfl (Qk rfl (Zc 1 rfl (E3 rfl (A7 (Qa (C6 (S := [b1]) 3 [(0, 0), (0, 1), (1, 2), (2, 3)] mo (by kernel_rfl) ?_)))))))))
     intro w36 hx36 hh36
     have hB1 := hB1.u hx36
     have hB3 := hB3.u hx36
     have hB5 := hB5.u hx36
     have hCS36 := A8 ([b1]) w36
     refine D5 rfl (B8 J3 rfl ‹_› (by simp; omega) rfl rfl) ?_
     refine D5 rfl (B8 F3 rfl ‹_› (by simp; omega) rfl rfl) ?_
     refine H1 (F8 T0 rfl rfl ‹_› rfl rfl rfl rfl rfl) ?_
     intro w37 hs37 hx37 hB1
     have hB2 := hB2.q (hx36.j hx37) (by simp <;> omega)
     have hCS36 := hCS36.step hx37 (by simp; done)
     refine ⟨hCS36, ?_⟩
     refine Pe G1 rfl ‹_› rfl rfl ?_
     intro w38 hs38 hx38 hB2
     have hC := hC.step ((hx36.j hx37).j hx38) (by simp <;> omega)
     have hB1 := hB1.q hx38 (by simp; omega)
     refine Qc (A6 (C5 rfl rfl (A5 J3 ‹_› rfl rfl) rfl (A5 F3 ‹_› rfl rfl) ?_))
     exact ⟨hC, by rw [hE]; unfold Ao1; simp only [C3]; rfl⟩
   ·try simp at c3
    rw [Dr1 (by omega)] at hE
    refine Qd (Zc 2 rfl (A4 rfl (fun c4 => ?_) (fun c4 => ?_)))
    ·try simp at c4
     rw [Dr2 (by omega)] at hE
     refine Qd (Fa Q4 rfl (Pe sz3 rfl ‹_› rfl rfl ?_))
     intro w39 hs39 hx39 hB5
     refine Qc (Qa (C6 (S := [b1]) 3 [(0, 0), (0, 1), (1, 2), (2, 3)] mo (by kernel_rfl) ?_))
     intro w40 hx40 hh40
     have hB1 := hB1.q (hx39.j hx40) (by simp <;> omega)
     have hB3 := hB3.q (hx39.j hx40) (by simp <;> omega)
     have hB5 := hB5.u hx40
     have hCS40 := A8 ([b1]) w40
     refine D5 rfl (B8 J3 rfl ‹_› (by simp; omega) rfl rfl) ?_
     refine D5 rfl (B8 F3 rfl ‹_› (by simp; omega) rfl rfl) ?_
     refine H1 (F8 T0 rfl rfl ‹_› rfl rfl rfl rfl rfl) ?_
     intro w41 hs41 hx41 hB1
     have hB2 := hB2.q ((hx39.j hx40).j hx41) (by simp <;> omega)
     have hCS40 := hCS40.step hx41 (by simp; done)
     refine ⟨hCS40, ?_⟩
     refine Pe G1 rfl ‹_› rfl rfl ?_
     intro w42 hs42 hx42 hB2
     have hC := hC.step (((hx39.j hx40).j hx41).j hx42) (by simp <;> omega)
     have hB1 := hB1.q hx42 (by simp; omega)
     refine Qc (A6 (C5 rfl rfl (A5 J3 ‹_› rfl rfl) rfl (A5 F3 ‹_› rfl rfl) ?_))
     exact ⟨hC, by rw [hE]; unfold Ao1; simp only [C3]; rfl⟩
    ·try simp at c4
     rw [Dr1 (by omega)] at hE
     refine Qd (Zc 2 rfl (A4 rfl (fun c5 => ?_) (fun c5 => ?_)))
     ·try simp at c5
      rw [Dr2 (by omega)] at hE
      refine Qd (Fa Q4 rfl (Pe sz3 rfl ‹_› rfl rfl ?_))
      intro w43 hs43 hx43 hB5
      refine Qc (Qa (C6 (S := [b1]) 3 [(0, 0), (0, 1), (1, 2), (2, 3)] mo (by kernel_rfl) ?_))
      intro w44 hx44 hh44
      have hB1 := hB1.q (hx43.j hx44) (by simp <;> omega)
      have hB3 := hB3.q (hx43.j hx44) (by simp <;> omega)
      have hB5 := hB5.u hx44
      have hCS44 := A8 ([b1]) w44
      refine D5 rfl (B8 J3 rfl ‹_› (by simp; omega) rfl rfl) ?_
      refine D5 rfl (B8 F3 rfl ‹_› (by simp; omega) rfl rfl) ?_
      refine H1 (F8 T0 rfl rfl ‹_› rfl rfl rfl rfl rfl) ?_
      intro w45 hs45 hx45 hB1
      have hB2 := hB2.q ((hx43.j hx44).j hx45) (by simp <;> omega)
      have hCS44 := hCS44.step hx45 (by simp; done)
      refine ⟨hCS44, ?_⟩
      refine Pe G1 rfl ‹_› rfl rfl ?_
      intro w46 hs46 hx46 hB2
      have hC := hC.step (((hx43.j hx44).j hx45).j hx46) (by simp <;> omega)
      have hB1 := hB1.q hx46 (by simp; omega)
      refine Qc (A6 (C5 rfl rfl (A5 J3 ‹_› rfl rfl) rfl (A5 F3 ‹_› rfl rfl) ?_))
      exact ⟨hC, by rw [hE]; unfold Ao1; simp only [C3]; rfl⟩
     ·try simp at c5
      rw [Dr1 (by omega)] at hE
      refine Qd (Zc 2 rfl (A4 rfl (fun c6 => ?_) (fun c6 => ?_)))
      ·try simp at c6
       rw [Dr2 (by omega)] at hE
       refine Qd (C7 rfl (D4 O3 U3 rfl (by rfl)) ?_)
       refine B4 rfl (B5 Am3 Tryz.underlying268 O3 rfl rfl rfl (by rfl)) ?_
       intro b47 w47 hb47 hs47 hx47 hB47
       refine Ca Al3 rfl (J9 [(10, 10)] true _ _ rfl (by decide) _ ‹_›) ?_
       rintro _ w48 ⟨rfl, hx48⟩
       have hB5 := hB5.u (hx47.s0 hx48)
       refine Fa Bd8 rfl (Pe J1 rfl ‹_› rfl rfl ?_)
       intro w49 hs49 hx49 hB5
       refine Qc (Qa (C6 (S := [b1]) 3 [(0, 0), (0, 1), (1, 2), (2, 3)] mo (by kernel_rfl) ?_))
       intro w50 hx50 hh50
       have hB1 := hB1.q (((hx47.j hx48).j hx49).j hx50) (by simp <;> omega)
       have hB3 := hB3.q (((hx47.j hx48).j hx49).j hx50) (by simp <;> omega)
       have hB5 := hB5.u hx50
       have hCS50 := A8 ([b1]) w50
       refine D5 rfl (B8 J3 rfl ‹_› (by simp; omega) rfl rfl) ?_
       refine D5 rfl (B8 F3 rfl ‹_› (by simp; omega) rfl rfl) ?_
       refine H1 (F8 T0 rfl rfl ‹_› rfl rfl rfl rfl rfl) ?_
       intro w51 hs51 hx51 hB1
       have hB2 := hB2.q ((((hx47.j hx48).j hx49).j hx50).j hx51) (by simp <;> omega)
       have hCS50 := hCS50.step hx51 (by simp; done)
       refine ⟨hCS50, ?_⟩
       refine Pe G1 rfl ‹_› rfl rfl ?_
       intro w52 hs52 hx52 hB2
       have hC := hC.step (((((hx47.j hx48).j hx49).j hx50).j hx51).j hx52) (by simp <;> omega)
       have hB1 := hB1.q hx52 (by simp; omega)
       refine Qc (A6 (C5 rfl rfl (A5 J3 ‹_› rfl rfl) rfl (A5 F3 ‹_› rfl rfl) ?_))
       exact ⟨hC, by rw [hE]; rfl⟩
      ·try simp at c6
       rw [Dr1 (by omega)] at hE
       refine Qa (Qd (Zc 2 rfl (A4 rfl (fun c7 => ?_) (fun c7 => ?_))))
       ·refine A7 (E1 (G9 rfl c7) ?_)
        rw [cmpB_eql] at c7
        rw [Dr2 (by omega)] at hE
        refine Qd (La J3 rfl ‹_› rfl rfl ?_)
        refine Z 1 rfl (C7 rfl (A9 I7 K0 rfl (by rfl)) ?_)
        refine Pe T0 rfl ‹_› rfl rfl ?_
        intro w53 hs53 hx53 hB1
        have hB2 := hB2.q hx53 (by simp; omega)
        refine Pe G1 rfl ‹_› rfl rfl ?_
        intro w54 hs54 hx54 hB2
        have hC := hC.step (hx53.j hx54) (by simp <;> omega)
        have hB1 := hB1.q hx54 (by simp; omega)
        refine Qc (A6 (C5 rfl rfl (A5 J3 ‹_› rfl rfl) rfl (A5 F3 ‹_› rfl rfl) ?_))
        exact ⟨hC, by rw [hE]; unfold Ao1; simp only [C3]; rfl⟩
       ·rw [cmpB_eqlF] at c7
        refine Qb (Zc 2 rfl (A4 rfl (fun c8 => ?_) (fun c8 => ?_)))
        ·rw [cmpB_eql] at c8
         rw [Dr2 (by omega)] at hE
         refine Qd (La J3 rfl ‹_› rfl rfl ?_)
         refine Z 1 rfl (C7 rfl (A9 I7 K0 rfl (by rfl)) ?_)
         refine Pe T0 rfl ‹_› rfl rfl ?_
         intro w55 hs55 hx55 hB1
         have hB2 := hB2.q hx55 (by simp; omega)
         refine Pe G1 rfl ‹_› rfl rfl ?_
         intro w56 hs56 hx56 hB2
         have hC := hC.step (hx55.j hx56) (by simp <;> omega)
         have hB1 := hB1.q hx56 (by simp; omega)
         refine Qc (A6 (C5 rfl rfl (A5 J3 ‹_› rfl rfl) rfl (A5 F3 ‹_› rfl rfl) ?_))
         exact ⟨hC, by rw [hE]; unfold Ao1; simp only [C3]; rfl⟩
        ·rw [cmpB_eqlF] at c8
         rw [Dr1 (by omega)] at hE
         refine Qa (Qd (Zc 2 rfl (A4 rfl (fun c9 => ?_) (fun c9 => ?_))))
         ·refine A7 (E1 (G9 rfl c9) ?_)
          rw [cmpB_eql] at c9
          rw [Dr2 (by omega)] at hE
          refine Qd (La J3 rfl ‹_› rfl rfl ?_)
          refine Z 1 rfl (C7 rfl (A9 I7 K0 rfl (by rfl)) ?_)
          refine Pe T0 rfl ‹_› rfl rfl ?_
          intro w57 hs57 hx57 hB1
          have hB2 := hB2.q hx57 (by simp; omega)
          refine Pe G1 rfl ‹_› rfl rfl ?_
          intro w58 hs58 hx58 hB2
          have hC := hC.step (hx57.j hx58) (by simp <;> omega)
          have hB1 := hB1.q hx58 (by simp; omega)
          refine Qc (A6 (C5 rfl rfl (A5 J3 ‹_› rfl rfl) rfl (A5 F3 ‹_› rfl rfl) ?_))
          exact ⟨hC, by rw [hE]; unfold Ao1; simp only [C3]; rfl⟩
         ·rw [cmpB_eqlF] at c9
          refine Qb (Zc 2 rfl (A4 rfl (fun c10 => ?_) (fun c10 => ?_)))
          ·rw [cmpB_eql] at c10
           rw [Dr2 (by omega)] at hE
           refine Qd (La J3 rfl ‹_› rfl rfl ?_)
           refine Z 1 rfl (C7 rfl (A9 I7 K0 rfl (by rfl)) ?_)
           refine Pe T0 rfl ‹_› rfl rfl ?_
           intro w59 hs59 hx59 hB1
           have hB2 := hB2.q hx59 (by simp; omega)
           refine Pe G1 rfl ‹_› rfl rfl ?_
           intro w60 hs60 hx60 hB2
           have hC := hC.step (hx59.j hx60) (by simp <;> omega)
           have hB1 := hB1.q hx60 (by simp; omega)
           refine Qc (A6 (C5 rfl rfl (A5 J3 ‹_› rfl rfl) rfl (A5 F3 ‹_› rfl rfl) ?_))
           exact ⟨hC, by rw [hE]; unfold Ao1; simp only [C3]; rfl⟩
          ·rw [cmpB_eqlF] at c10
           rw [Dr1 (by omega)] at hE
           refine A7 (Qa (Qd (Z 1 rfl (Ca fb171 rfl (rin_c cntT (by decide) c hb _) ?_))))
           rintro _ w61 ⟨rfl, hx61⟩
           have hC := hC.s0 hx61
           have hB1 := hB1.u hx61
           have hB2 := hB2.u hx61
           have hB3 := hB3.u hx61
           have hB5 := hB5.u hx61
           refine Zc 1 rfl (A4 rfl (fun n1 => ?_) (fun n1 => ?_))
           ·have n1' : c ∉ C2 cntT := by simpa using n1
            rw [Dr2 n1'] at hE
            refine Qd (Z 1 rfl (C7 rfl (H0 kn5 Tryz.underlying3 rfl (by exact I2 (by omega))) ?_))
            refine Z 1 rfl (C7 rfl (H0 kn5 Tryz.underlying3 rfl (by exact I2 (by omega))) ?_)
            refine C7 rfl (D4 O3 U3 rfl (by rfl)) ?_
            refine B4 rfl (B5 Am3 Tryz.underlying268 O3 rfl rfl rfl (by rfl)) ?_
            intro b62 w62 hb62 hs62 hx62 hB62
            refine Ca Al3 rfl (J9 [((c : Int), (c : Int))] false _ _ rfl (by simp) _ ‹_›) ?_
            rintro _ w63 ⟨rfl, hx63⟩
            have hB5 := hB5.u (hx62.s0 hx63)
            refine Fa Bd8 rfl (Pe J1 rfl ‹_› rfl rfl ?_)
            intro w64 hs64 hx64 hB5
            refine Qc (Qa (C6 (S := [b1]) 3 [(0, 0), (0, 1), (1, 2), (2, 3)] mo (by kernel_rfl) ?_))
            intro w65 hx65 hh65
            have hB1 := hB1.q (((hx62.j hx63).j hx64).j hx65) (by simp <;> omega)
            have hB3 := hB3.q (((hx62.j hx63).j hx64).j hx65) (by simp <;> omega)
            have hB5 := hB5.u hx65
            have hCS65 := A8 ([b1]) w65
            refine D5 rfl (B8 J3 rfl ‹_› (by simp; omega) rfl rfl) ?_
            refine D5 rfl (B8 F3 rfl ‹_› (by simp; omega) rfl rfl) ?_
            refine H1 (F8 T0 rfl rfl ‹_› rfl rfl rfl rfl rfl) ?_
            intro w66 hs66 hx66 hB1
            have hB2 := hB2.q ((((hx62.j hx63).j hx64).j hx65).j hx66) (by simp <;> omega)
            have hCS65 := hCS65.step hx66 (by simp; done)
            refine ⟨hCS65, ?_⟩
            refine Pe G1 rfl ‹_› rfl rfl ?_
            intro w67 hs67 hx67 hB2
            have hC := hC.step (((((hx62.j hx63).j hx64).j hx65).j hx66).j hx67) (by simp <;> omega)
            have hB1 := hB1.q hx67 (by simp; omega)
            refine Qc (A6 (C5 rfl rfl (A5 J3 ‹_› rfl rfl) rfl (A5 F3 ‹_› rfl rfl) ?_))
            exact ⟨hC, by rw [hE]; rfl⟩
           ·have n1' : ¬ c ∉ C2 cntT := by simpa using n1
            rw [Dr1 n1'] at hE
            refine A7 (Qd (Fa Q4 rfl (Pe sz3 rfl ‹_› rfl rfl ?_)))
            intro w68 hs68 hx68 hB5
            refine Qc (Qd (Fa Bs5 rfl (Pe sz3 rfl ‹_› rfl rfl ?_)))
            intro w69 hs69 hx69 hB5
            have hC := hC.step (hx68.j hx69) (by simp <;> omega)
            have hB1 := hB1.q (hx68.j hx69) (by simp <;> omega)
            have hB2 := hB2.q (hx68.j hx69) (by simp <;> omega)
            have hB3 := hB3.q (hx68.j hx69) (by simp <;> omega)
            refine Qc (I1 (fun e9 wr => ∃ t q, Sub [(0, .string s), (4, .pointer (some ⟨b1, 0, none⟩)), (5, .pointer (some ⟨b2, 0, none⟩)), (7, .pointer (some ⟨b3, 0, none⟩)), (8, .pointer (some ⟨b5, 0, none⟩))] e9 ∧ Chg [] w wr ∧ Blk wr b1 (Ao1 ⟨0, 0, 0, 0, 0, 0, false⟩) 231 ∧ Blk wr b2 (endC (0, 0)) 232 ∧ Blk wr b3 (endC q) 232 ∧ Blk wr b5 (Ao1 t) 231 ∧ Cg6 (C2 s) at_ = Da0 (C2 s) t q ∧ (∃ i : Nat, q.1 = (i : Int) ∧ i ≤ 5000)) ?_ ?_)
            ·refine Qd (Zc 1 rfl (B0 (Qd (Zc 2 rfl (A4 rfl (fun d1 => ?_) (fun d1 => ?_))))))
             ·try simp at d1
              rw [Dr2 (by omega)] at hE
              refine Qb (Fa Ci6 rfl (Pe sz3 rfl ‹_› rfl rfl ?_))
              intro w70 hs70 hx70 hB5
              have hC := hC.step hx70 (by simp; omega)
              have hB1 := hB1.q hx70 (by simp; omega)
              have hB2 := hB2.q hx70 (by simp; omega)
              have hB3 := hB3.q hx70 (by simp; omega)
              refine Qc ⟨⟨5, at_, 0, 0, 1, -1, false⟩, ((at_ : Int) + 1, 0), sb rfl, ?_⟩
              exact ⟨hC, by unfold Ao1; simp only [C3]; exact hB1, hB2, hB3, by unfold Ao1; simp only [C3]; exact hB5, hE, ⟨at_ + 1, by show (at_ : Int) + 1 = _; omega, by omega⟩⟩
             ·try simp at d1
              rw [Dr1 (by omega)] at hE
              refine Qd (Zc 2 rfl (A4 rfl (fun d2 => ?_) (fun d2 => ?_)))
              ·try simp at d2
               rw [Dr2 (by omega)] at hE
               refine Qb (Fa Bs5 rfl (Pe sz3 rfl ‹_› rfl rfl ?_))
               intro w71 hs71 hx71 hB5
               have hC := hC.step hx71 (by simp; omega)
               have hB1 := hB1.q hx71 (by simp; omega)
               have hB2 := hB2.q hx71 (by simp; omega)
               have hB3 := hB3.q hx71 (by simp; omega)
               refine Qc ⟨⟨5, at_, 0, 0, 0, 1, false⟩, ((at_ : Int) + 1, 0), sb rfl, ?_⟩
               exact ⟨hC, by unfold Ao1; simp only [C3]; exact hB1, hB2, hB3, by unfold Ao1; simp only [C3]; exact hB5, hE, ⟨at_ + 1, by show (at_ : Int) + 1 = _; omega, by omega⟩⟩
              ·try simp at d2
               rw [Dr1 (by omega)] at hE
               refine Qd (Zc 2 rfl (A4 rfl (fun d3 => ?_) (fun d3 => ?_)))
               ·try simp at d3
                rw [Dr2 (by omega)] at hE
                have hbp := Cl7 (C2 s) hlt (at_ + 1)
                refine Qb (Z 2 rfl (Ad rfl rfl (by omega) (Ca fb172 rfl (Df5 s hs (at_ + 1) (by omega) _) ?_)))
                rintro _ w72 ⟨hx72, rfl⟩
                have hB5 := hB5.u hx72
                generalize P4 (C2 s) (at_ + 1) = b at *
                obtain ⟨bm, bn, bp, be⟩ := b
                obtain ⟨j, hj, hj2⟩ := hbp
                simp only [] at hj hE
                refine Z 4 rfl (Fa Ci6 rfl (Pe sz3 rfl ‹_› rfl rfl ?_))
                intro w73 hs73 hx73 hB5
                refine Fa Bs5 rfl (Pe sz3 rfl ‹_› rfl rfl ?_)
                intro w74 hs74 hx74 hB5
                have hB3 := hB3.q ((hx72.j hx73).j hx74) (by simp <;> omega)
                refine Pe G1 rfl ‹_› rfl rfl ?_
                intro w75 hs75 hx75 hB3
                have hC := hC.step (((hx72.j hx73).j hx74).j hx75) (by simp <;> omega)
                have hB1 := hB1.q (((hx72.j hx73).j hx74).j hx75) (by simp <;> omega)
                have hB2 := hB2.q (((hx72.j hx73).j hx74).j hx75) (by simp <;> omega)
                have hB5 := hB5.q hx75 (by simp; omega)
                refine Qc ⟨⟨5, at_, 0, 0, bm, bn, false⟩, (bp, be), sb rfl, ?_⟩
                exact ⟨hC, by unfold Ao1; simp only [C3]; exact hB1, hB2, hB3, by unfold Ao1; simp only [C3]; exact hB5, hE, ⟨j, hj, by omega⟩⟩
               ·try simp at d3
                rw [Dr1 (by omega)] at hE
                refine A7 ⟨⟨5, at_, 0, 0, 0, -1, false⟩, ((at_ : Int) + 1, 0), sb rfl, ?_⟩
                exact ⟨hC, by unfold Ao1; simp only [C3]; exact hB1, hB2, hB3, by unfold Ao1; simp only [C3]; exact hB5, hE, ⟨at_ + 1, by show (at_ : Int) + 1 = _; omega, by omega⟩⟩
            rintro e9 w9 ⟨t, q, hs9, hC, hB1, hB2, hB3, hB5, hR, hq⟩
            refine I0 _ hs9 ?_
            clear hs9 e9
            obtain ⟨q1, qe⟩ := q
            obtain ⟨i, hi, hi2⟩ := hq
            simp only [] at hi
            subst hi
            unfold Da0 at hR
            simp only [Ds1] at hR
            refine Qa (Qd (Fa Y9 rfl (Lb o3 rfl ‹_› (by rfl) ?_)))
            refine Zc 1 rfl (A4 rfl (fun z1 => ?_) (fun z1 => ?_))
            ·try simp at z1
             rw [Dr2 z1] at hR
             refine Qa (C6 (S := [b1]) 3 [(0, 0), (0, 1), (1, 2), (2, 3)] mo (by kernel_rfl) ?_)
             intro w76 hx76 hh76
             have hB1 := hB1.u hx76
             have hB3 := hB3.u hx76
             have hB5 := hB5.u hx76
             have hCS76 := A8 ([b1]) w76
             refine D5 rfl (B8 J3 rfl ‹_› (by simp; omega) rfl rfl) ?_
             refine D5 rfl (B8 F3 rfl ‹_› (by simp; omega) rfl rfl) ?_
             refine H1 (F8 T0 rfl rfl ‹_› rfl rfl rfl rfl rfl) ?_
             intro w77 hs77 hx77 hB1
             have hB2 := hB2.q (hx76.j hx77) (by simp <;> omega)
             have hCS76 := hCS76.step hx77 (by simp; done)
             refine ⟨hCS76, ?_⟩
             refine Pe G1 rfl ‹_› rfl rfl ?_
             intro w78 hs78 hx78 hB2
             have hC := hC.step ((hx76.j hx77).j hx78) (by simp <;> omega)
             have hB1 := hB1.q hx78 (by simp; omega)
             refine Qc (A6 (C5 rfl rfl (A5 J3 ‹_› rfl rfl) rfl (A5 F3 ‹_› rfl rfl) ?_))
             exact ⟨hC, by rw [hR]; rfl⟩
            ·try simp at z1
             have z1' : qe = 0 := by simpa using z1
             subst z1'
             rw [Dr1 (by simp)] at hR
             refine A7 (Qa (Qd (Fa G0 rfl (Lb o3 rfl ‹_› (by rfl) ?_))))
             refine Z 1 rfl (C7 rfl (F4 Tryz.underlying9 rfl) (Z 2 rfl (B7 (d := 149) rfl (fun z2 => ?_) (fun z2 => ?_))))
             ·try simp at z2
              have hin : i < s.size := by omega
              obtain ⟨u9, hu3, hu4⟩ := I4 s i hin
              refine Qu rfl (Z 1 rfl (Qu rfl (Fa G0 rfl (Qu rfl (Lb o3 rfl ‹_› (by rfl) ?_)))))
              refine Qu rfl (C7 rfl (Does.to (E8 Tryz.underlying9 rfl rfl (by omega) (by exact hu3)) (I9 (show ((u9.toNat : Nat) : Int) = (((C2 s).getD i 0 : Nat) : Int) by rw [hu4]))) ?_)
              refine Qu rfl (Zc 2 rfl (A4 rfl (fun z3 => ?_) (fun z3 => ?_)))
              ·rw [cmpB_eql] at z3
               rw [Dr2 ⟨by omega, by omega⟩] at hR
               simp only [] at hR
               refine Qd (Fa Dl1 rfl (Pe sz4 rfl ‹_› rfl rfl ?_))
               intro w79 hs79 hx79 hB5
               have hB3 := hB3.q hx79 (by simp; omega)
               refine Qc (Qb (Fa G0 rfl (Lb o3 rfl ‹_› (by rfl) ?_)))
               refine Ad rfl rfl (by omega) (Fa G0 rfl (Pe sz3 rfl ‹_› rfl rfl ?_))
               intro w80 hs80 hx80 hB3
               have hC := hC.step (hx79.j hx80) (by simp <;> omega)
               have hB1 := hB1.q (hx79.j hx80) (by simp <;> omega)
               have hB2 := hB2.q (hx79.j hx80) (by simp <;> omega)
               have hB5 := hB5.q hx80 (by simp; omega)
               refine Qc (Qa (Qd (Fa G0 rfl (Lb o3 rfl ‹_› (by rfl) ?_))))
               refine Z 1 rfl (C7 rfl (F4 Tryz.underlying9 rfl) (Z 2 rfl (B7 (d := 166) rfl (fun y1 => ?_) (fun y1 => ?_))))
               ·try simp at y1
                have hin : i + 1 < s.size := by omega
                obtain ⟨v8, hv, hv2⟩ := I4 s (i + 1) hin
                refine Qu rfl (Z 1 rfl (Qu rfl (Fa G0 rfl (Qu rfl (Lb o3 rfl ‹_› (by rfl) ?_)))))
                refine Qu rfl (C7 rfl (Does.to (E8 Tryz.underlying9 rfl rfl (by omega) (by exact hv)) (I9 (show ((v8.toNat : Nat) : Int) = (((C2 s).getD (i + 1) 0 : Nat) : Int) by rw [hv2]))) ?_)
                refine Qu rfl (Zc 2 rfl (A4 rfl (fun y2 => ?_) (fun y2 => ?_)))
                ·rw [cmpB_eql] at y2
                 rw [Dr2 ⟨by omega, by omega⟩] at hR
                 refine Qb (Fa Y9 rfl (Pe sz3 rfl ‹_› rfl rfl ?_))
                 intro w81 hs81 hx81 hB3
                 refine Qc (Qa (C6 (S := [b1]) 3 [(0, 0), (0, 1), (1, 2), (2, 3)] mo (by kernel_rfl) ?_))
                 intro w82 hx82 hh82
                 have hB1 := hB1.q (hx81.j hx82) (by simp <;> omega)
                 have hB3 := hB3.u hx82
                 have hB5 := hB5.q (hx81.j hx82) (by simp <;> omega)
                 have hCS82 := A8 ([b1]) w82
                 refine D5 rfl (B8 J3 rfl ‹_› (by simp; omega) rfl rfl) ?_
                 refine D5 rfl (B8 F3 rfl ‹_› (by simp; omega) rfl rfl) ?_
                 refine H1 (F8 T0 rfl rfl ‹_› rfl rfl rfl rfl rfl) ?_
                 intro w83 hs83 hx83 hB1
                 have hB2 := hB2.q ((hx81.j hx82).j hx83) (by simp <;> omega)
                 have hCS82 := hCS82.step hx83 (by simp; done)
                 refine ⟨hCS82, ?_⟩
                 refine Pe G1 rfl ‹_› rfl rfl ?_
                 intro w84 hs84 hx84 hB2
                 have hC := hC.step (((hx81.j hx82).j hx83).j hx84) (by simp <;> omega)
                 have hB1 := hB1.q hx84 (by simp; omega)
                 refine Qc (A6 (C5 rfl rfl (A5 J3 ‹_› rfl rfl) rfl (A5 F3 ‹_› rfl rfl) ?_))
                 exact ⟨hC, by rw [hR]; rfl⟩
                ·rw [cmpB_eqlF] at y2
                 rw [Dr1 (by omega)] at hR
                 refine A7 (Qa (C6 (S := [b1]) 3 [(0, 0), (0, 1), (1, 2), (2, 3)] mo (by kernel_rfl) ?_))
                 intro w85 hx85 hh85
                 have hB1 := hB1.u hx85
                 have hB3 := hB3.u hx85
                 have hB5 := hB5.u hx85
                 have hCS85 := A8 ([b1]) w85
                 refine D5 rfl (B8 J3 rfl ‹_› (by simp; omega) rfl rfl) ?_
                 refine D5 rfl (B8 F3 rfl ‹_› (by simp; omega) rfl rfl) ?_
                 refine H1 (F8 T0 rfl rfl ‹_› rfl rfl rfl rfl rfl) ?_
                 intro w86 hs86 hx86 hB1
                 have hB2 := hB2.q (hx85.j hx86) (by simp <;> omega)
                 have hCS85 := hCS85.step hx86 (by simp; done)
                 refine ⟨hCS85, ?_⟩
                 refine Pe G1 rfl ‹_› rfl rfl ?_
                 intro w87 hs87 hx87 hB2
                 have hC := hC.step ((hx85.j hx86).j hx87) (by simp <;> omega)
                 have hB1 := hB1.q hx87 (by simp; omega)
                 refine Qc (A6 (C5 rfl rfl (A5 J3 ‹_› rfl rfl) rfl (A5 F3 ‹_› rfl rfl) ?_))
                 exact ⟨hC, by rw [hR]; rfl⟩
               ·try simp at y1
                rw [Dr1 (by omega)] at hR
                refine Qk rfl (Qk rfl (Qk rfl (Qk rfl (Qk rfl (Zc 1 rfl (E3 rfl (A7 (Qa (C6 (S := [b1]) 3 [(0, 0), (0, 1), (1, 2), (2, 3)] mo (by kernel_rfl) ?_)))))))))
                intro w88 hx88 hh88
                have hB1 := hB1.u hx88
                have hB3 := hB3.u hx88
                have hB5 := hB5.u hx88
                have hCS88 := A8 ([b1]) w88
                refine D5 rfl (B8 J3 rfl ‹_› (by simp; omega) rfl rfl) ?_
                refine D5 rfl (B8 F3 rfl ‹_› (by simp; omega) rfl rfl) ?_
                refine H1 (F8 T0 rfl rfl ‹_› rfl rfl rfl rfl rfl) ?_
                intro w89 hs89 hx89 hB1
                have hB2 := hB2.q (hx88.j hx89) (by simp <;> omega)
                have hCS88 := hCS88.step hx89 (by simp; done)
                refine ⟨hCS88, ?_⟩
                refine Pe G1 rfl ‹_› rfl rfl ?_
                intro w90 hs90 hx90 hB2
                have hC := hC.step ((hx88.j hx89).j hx90) (by simp <;> omega)
                have hB1 := hB1.q hx90 (by simp; omega)
                refine Qc (A6 (C5 rfl rfl (A5 J3 ‹_› rfl rfl) rfl (A5 F3 ‹_› rfl rfl) ?_))
                exact ⟨hC, by rw [hR]; rfl⟩
              ·rw [cmpB_eqlF] at z3
               rw [Dr1 (by omega)] at hR
               simp only [] at hR
               refine A7 (Qa (Qd (Fa G0 rfl (Lb o3 rfl ‹_› (by rfl) ?_))))
               refine Z 1 rfl (C7 rfl (F4 Tryz.underlying9 rfl) (Z 2 rfl (B7 (d := 166) rfl (fun y1 => ?_) (fun y1 => ?_))))
               ·try simp at y1
                have hin : i < s.size := by omega
                obtain ⟨v8, hv, hv2⟩ := I4 s (i) hin
                refine Qu rfl (Z 1 rfl (Qu rfl (Fa G0 rfl (Qu rfl (Lb o3 rfl ‹_› (by rfl) ?_)))))
                refine Qu rfl (C7 rfl (Does.to (E8 Tryz.underlying9 rfl rfl (by omega) (by exact hv)) (I9 (show ((v8.toNat : Nat) : Int) = (((C2 s).getD (i) 0 : Nat) : Int) by rw [hv2]))) ?_)
                refine Qu rfl (Zc 2 rfl (A4 rfl (fun y2 => ?_) (fun y2 => ?_)))
                ·rw [cmpB_eql] at y2
                 rw [Dr2 ⟨by omega, by omega⟩] at hR
                 refine Qb (Fa Y9 rfl (Pe sz3 rfl ‹_› rfl rfl ?_))
                 intro w91 hs91 hx91 hB3
                 refine Qc (Qa (C6 (S := [b1]) 3 [(0, 0), (0, 1), (1, 2), (2, 3)] mo (by kernel_rfl) ?_))
                 intro w92 hx92 hh92
                 have hB1 := hB1.q (hx91.j hx92) (by simp <;> omega)
                 have hB3 := hB3.u hx92
                 have hB5 := hB5.q (hx91.j hx92) (by simp <;> omega)
                 have hCS92 := A8 ([b1]) w92
                 refine D5 rfl (B8 J3 rfl ‹_› (by simp; omega) rfl rfl) ?_
                 refine D5 rfl (B8 F3 rfl ‹_› (by simp; omega) rfl rfl) ?_
                 refine H1 (F8 T0 rfl rfl ‹_› rfl rfl rfl rfl rfl) ?_
                 intro w93 hs93 hx93 hB1
                 have hB2 := hB2.q ((hx91.j hx92).j hx93) (by simp <;> omega)
                 have hCS92 := hCS92.step hx93 (by simp; done)
                 refine ⟨hCS92, ?_⟩
                 refine Pe G1 rfl ‹_› rfl rfl ?_
                 intro w94 hs94 hx94 hB2
                 have hC := hC.step (((hx91.j hx92).j hx93).j hx94) (by simp <;> omega)
                 have hB1 := hB1.q hx94 (by simp; omega)
                 refine Qc (A6 (C5 rfl rfl (A5 J3 ‹_› rfl rfl) rfl (A5 F3 ‹_› rfl rfl) ?_))
                 exact ⟨hC, by rw [hR]; rfl⟩
                ·rw [cmpB_eqlF] at y2
                 rw [Dr1 (by omega)] at hR
                 refine A7 (Qa (C6 (S := [b1]) 3 [(0, 0), (0, 1), (1, 2), (2, 3)] mo (by kernel_rfl) ?_))
                 intro w95 hx95 hh95
                 have hB1 := hB1.u hx95
                 have hB3 := hB3.u hx95
                 have hB5 := hB5.u hx95
                 have hCS95 := A8 ([b1]) w95
                 refine D5 rfl (B8 J3 rfl ‹_› (by simp; omega) rfl rfl) ?_
                 refine D5 rfl (B8 F3 rfl ‹_› (by simp; omega) rfl rfl) ?_
                 refine H1 (F8 T0 rfl rfl ‹_› rfl rfl rfl rfl rfl) ?_
                 intro w96 hs96 hx96 hB1
                 have hB2 := hB2.q (hx95.j hx96) (by simp <;> omega)
                 have hCS95 := hCS95.step hx96 (by simp; done)
                 refine ⟨hCS95, ?_⟩
                 refine Pe G1 rfl ‹_› rfl rfl ?_
                 intro w97 hs97 hx97 hB2
                 have hC := hC.step ((hx95.j hx96).j hx97) (by simp <;> omega)
                 have hB1 := hB1.q hx97 (by simp; omega)
                 refine Qc (A6 (C5 rfl rfl (A5 J3 ‹_› rfl rfl) rfl (A5 F3 ‹_› rfl rfl) ?_))
                 exact ⟨hC, by rw [hR]; rfl⟩
               ·try simp at y1
                rw [Dr1 (by omega)] at hR
                refine Qk rfl (Qk rfl (Qk rfl (Qk rfl (Qk rfl (Zc 1 rfl (E3 rfl (A7 (Qa (C6 (S := [b1]) 3 [(0, 0), (0, 1), (1, 2), (2, 3)] mo (by kernel_rfl) ?_)))))))))
                intro w98 hx98 hh98
                have hB1 := hB1.u hx98
                have hB3 := hB3.u hx98
                have hB5 := hB5.u hx98
                have hCS98 := A8 ([b1]) w98
                refine D5 rfl (B8 J3 rfl ‹_› (by simp; omega) rfl rfl) ?_
                refine D5 rfl (B8 F3 rfl ‹_› (by simp; omega) rfl rfl) ?_
                refine H1 (F8 T0 rfl rfl ‹_› rfl rfl rfl rfl rfl) ?_
                intro w99 hs99 hx99 hB1
                have hB2 := hB2.q (hx98.j hx99) (by simp <;> omega)
                have hCS98 := hCS98.step hx99 (by simp; done)
                refine ⟨hCS98, ?_⟩
                refine Pe G1 rfl ‹_› rfl rfl ?_
                intro w100 hs100 hx100 hB2
                have hC := hC.step ((hx98.j hx99).j hx100) (by simp <;> omega)
                have hB1 := hB1.q hx100 (by simp; omega)
                refine Qc (A6 (C5 rfl rfl (A5 J3 ‹_› rfl rfl) rfl (A5 F3 ‹_› rfl rfl) ?_))
                exact ⟨hC, by rw [hR]; rfl⟩
             ·try simp at z2
              rw [Dr1 (by omega)] at hR
              simp only [] at hR
              refine Qk rfl (Qk rfl (Qk rfl (Qk rfl (Qk rfl (Zc 1 rfl (E3 rfl (A7 (Qa (Qd (Fa G0 rfl (Lb o3 rfl ‹_› (by rfl) ?_)))))))))))
              refine Z 1 rfl (C7 rfl (F4 Tryz.underlying9 rfl) (Z 2 rfl (B7 (d := 166) rfl (fun y1 => ?_) (fun y1 => ?_))))
              ·try simp at y1
               have hin : i < s.size := by omega
               obtain ⟨v8, hv, hv2⟩ := I4 s (i) hin
               refine Qu rfl (Z 1 rfl (Qu rfl (Fa G0 rfl (Qu rfl (Lb o3 rfl ‹_› (by rfl) ?_)))))
               refine Qu rfl (C7 rfl (Does.to (E8 Tryz.underlying9 rfl rfl (by omega) (by exact hv)) (I9 (show ((v8.toNat : Nat) : Int) = (((C2 s).getD (i) 0 : Nat) : Int) by rw [hv2]))) ?_)
               refine Qu rfl (Zc 2 rfl (A4 rfl (fun y2 => ?_) (fun y2 => ?_)))
               ·rw [cmpB_eql] at y2
                rw [Dr2 ⟨by omega, by omega⟩] at hR
                refine Qb (Fa Y9 rfl (Pe sz3 rfl ‹_› rfl rfl ?_))
                intro w101 hs101 hx101 hB3
                refine Qc (Qa (C6 (S := [b1]) 3 [(0, 0), (0, 1), (1, 2), (2, 3)] mo (by kernel_rfl) ?_))
                intro w102 hx102 hh102
                have hB1 := hB1.q (hx101.j hx102) (by simp <;> omega)
                have hB3 := hB3.u hx102
                have hB5 := hB5.q (hx101.j hx102) (by simp <;> omega)
                have hCS102 := A8 ([b1]) w102
                refine D5 rfl (B8 J3 rfl ‹_› (by simp; omega) rfl rfl) ?_
                refine D5 rfl (B8 F3 rfl ‹_› (by simp; omega) rfl rfl) ?_
                refine H1 (F8 T0 rfl rfl ‹_› rfl rfl rfl rfl rfl) ?_
                intro w103 hs103 hx103 hB1
                have hB2 := hB2.q ((hx101.j hx102).j hx103) (by simp <;> omega)
                have hCS102 := hCS102.step hx103 (by simp; done)
                refine ⟨hCS102, ?_⟩
                refine Pe G1 rfl ‹_› rfl rfl ?_
                intro w104 hs104 hx104 hB2
                have hC := hC.step (((hx101.j hx102).j hx103).j hx104) (by simp <;> omega)
                have hB1 := hB1.q hx104 (by simp; omega)
                refine Qc (A6 (C5 rfl rfl (A5 J3 ‹_› rfl rfl) rfl (A5 F3 ‹_› rfl rfl) ?_))
                exact ⟨hC, by rw [hR]; rfl⟩
               ·rw [cmpB_eqlF] at y2
                rw [Dr1 (by omega)] at hR
                refine A7 (Qa (C6 (S := [b1]) 3 [(0, 0), (0, 1), (1, 2), (2, 3)] mo (by kernel_rfl) ?_))
                intro w105 hx105 hh105
                have hB1 := hB1.u hx105
                have hB3 := hB3.u hx105
                have hB5 := hB5.u hx105
                have hCS105 := A8 ([b1]) w105
                refine D5 rfl (B8 J3 rfl ‹_› (by simp; omega) rfl rfl) ?_
                refine D5 rfl (B8 F3 rfl ‹_› (by simp; omega) rfl rfl) ?_
                refine H1 (F8 T0 rfl rfl ‹_› rfl rfl rfl rfl rfl) ?_
                intro w106 hs106 hx106 hB1
                have hB2 := hB2.q (hx105.j hx106) (by simp <;> omega)
                have hCS105 := hCS105.step hx106 (by simp; done)
                refine ⟨hCS105, ?_⟩
                refine Pe G1 rfl ‹_› rfl rfl ?_
                intro w107 hs107 hx107 hB2
                have hC := hC.step ((hx105.j hx106).j hx107) (by simp <;> omega)
                have hB1 := hB1.q hx107 (by simp; omega)
                refine Qc (A6 (C5 rfl rfl (A5 J3 ‹_› rfl rfl) rfl (A5 F3 ‹_› rfl rfl) ?_))
                exact ⟨hC, by rw [hR]; rfl⟩
              ·try simp at y1
               rw [Dr1 (by omega)] at hR
               refine Qk rfl (Qk rfl (Qk rfl (Qk rfl (Qk rfl (Zc 1 rfl (E3 rfl (A7 (Qa (C6 (S := [b1]) 3 [(0, 0), (0, 1), (1, 2), (2, 3)] mo (by kernel_rfl) ?_)))))))))
               intro w108 hx108 hh108
               have hB1 := hB1.u hx108
               have hB3 := hB3.u hx108
               have hB5 := hB5.u hx108
               have hCS108 := A8 ([b1]) w108
               refine D5 rfl (B8 J3 rfl ‹_› (by simp; omega) rfl rfl) ?_
               refine D5 rfl (B8 F3 rfl ‹_› (by simp; omega) rfl rfl) ?_
               refine H1 (F8 T0 rfl rfl ‹_› rfl rfl rfl rfl rfl) ?_
               intro w109 hs109 hx109 hB1
               have hB2 := hB2.q (hx108.j hx109) (by simp <;> omega)
               have hCS108 := hCS108.step hx109 (by simp; done)
               refine ⟨hCS108, ?_⟩
               refine Pe G1 rfl ‹_› rfl rfl ?_
               intro w110 hs110 hx110 hB2
               have hC := hC.step ((hx108.j hx109).j hx110) (by simp <;> omega)
               have hB1 := hB1.q hx110 (by simp; omega)
               refine Qc (A6 (C5 rfl rfl (A5 J3 ‹_› rfl rfl) rfl (A5 F3 ‹_› rfl rfl) ?_))
               exact ⟨hC, by rw [hR]; rfl⟩
def GoodP (L : List Nat) (at_ : Nat) (e : Int × Int) : Prop := e.2 = 0 → ∃ j : Nat, e.1 = (j : Int) ∧ at_ + 1 ≤ j ∧ j ≤ L.length
theorem Z4 {L : List Nat} {at_ : Nat} {a b : Int} (h : b ≠ 0) : GoodP L at_ (a, b) := fun h' => absurd h' h
theorem GoodP.one {L : List Nat} {at_ : Nat} (h : at_ < L.length) : GoodP L at_ ((at_ : Int) + 1, 0) := fun _ => ⟨at_ + 1, by show (at_ : Int) + 1 = _; omega, by omega, by omega⟩
theorem Dm2 (L : List Nat) (at_ : Nat) : GoodP L at_ (Dm3 L at_).2 := fun h => by
 obtain ⟨i, h1, h2, _⟩ := Cr4 L at_
 exact ⟨i, h1, by have := (h2 h).1; omega, (h2 h).2⟩
theorem Cs7 (L : List Nat) : ∀ (f : Nat) (fi : Bool) (on : List Bool) (i : Nat) (on' : List Bool) (i' : Nat), Do2 L f fi on i = .inr (on', i') → i ≤ i' ∧ (i' < L.length ∨ (i' = i ∧ fi = false ∧ i < L.length))
 | 0, fi, on, i, on', i', h => by cases h
 | f + 1, fi, on, i, on', i', h => by
  rw [Do2] at h
  by_cases hg : fi = true ∨ L.length ≤ i ∨ L.getD i 0 ≠ 93
  ·rw [Dr2 hg] at h
   cases hs : An6 L on i with
   | inl e => rw [hs] at h; cases h
   | inr x =>
    obtain ⟨on2, i2⟩ := x
    rw [hs] at h
    have hi2 : i < i2 := by
     unfold An6 at hs
     simp only [] at hs
     obtain ⟨i1, h1, h2, _⟩ := Aq2 L i
     obtain ⟨i3, h3, h4, _⟩ := Aq2 L ((Ae8 L i).2.1.toNat + 1)
     generalize Ae8 L ((Ae8 L i).2.1.toNat + 1) = y at *
     generalize Ae8 L i = x at *
     obtain ⟨x1, xp, xe⟩ := x
     obtain ⟨y1, yp, ye⟩ := y
     simp only [] at h1 h2 h3 h4 hs
     subst h1 h3
     simp only [Ds1] at hs h4
     by_cases e1 : xe ≠ 0
     ·rw [Dr2 e1] at hs; cases hs
     rw [Dr1 e1] at hs
     have h2 := h2 (by simpa using e1)
     by_cases e2 : L.length ≤ i1 ∨ L.getD i1 0 ≠ 45
     ·rw [Dr2 e2] at hs; injection hs with hs; injection hs with _ hs; omega
     rw [Dr1 e2] at hs
     by_cases e3 : Ag7 x1 < 0
     ·rw [Dr2 e3] at hs; cases hs
     rw [Dr1 e3] at hs
     by_cases e4 : ye ≠ 0
     ·rw [Dr2 e4] at hs; cases hs
     rw [Dr1 e4] at hs
     have h4 := h4 (by simpa using e4)
     by_cases e5 : Ag7 y1 < 0
     ·rw [Dr2 e5] at hs; cases hs
     rw [Dr1 e5] at hs
     by_cases e6 : Ag7 y1 < Ag7 x1
     ·rw [Dr2 e6] at hs; cases hs
     rw [Dr1 e6] at hs
     injection hs with hs
     injection hs with _ hs
     omega
    have := Cs7 L f false on2 i2 on' i' h
    exact ⟨by omega, by rcases this.2 with h5 | h5; exact .inl h5; exact .inl (by omega)⟩
  ·rw [Dr1 hg] at h
   injection h with h
   injection h with h1 h2
   subst h2
   have := Dz6.1 hg
   exact ⟨Ds3 _, .inl (by have := Dz6.1 this.2; omega)⟩
theorem Ck8 (L : List Nat) (on : List Bool) (i : Nat) (e : Int × Int) (hs : An6 L on i = .inl e) : e.2 ≠ 0 := by
 unfold An6 at hs
 simp only [] at hs
 generalize Ae8 L ((Ae8 L i).2.1.toNat + 1) = y at *
 generalize Ae8 L i = x at *
 by_cases e1 : x.2.2 ≠ 0
 ·rw [Dr2 e1] at hs; injection hs with hs; rw [← hs]; exact e1
 rw [Dr1 e1] at hs
 by_cases e2 : L.length ≤ x.2.1.toNat ∨ L.getD x.2.1.toNat 0 ≠ 45
 ·rw [Dr2 e2] at hs; cases hs
 rw [Dr1 e2] at hs
 by_cases e3 : Ag7 x.1 < 0
 ·rw [Dr2 e3] at hs; injection hs with hs; rw [← hs]; show (4 : Int) ≠ 0; decide
 rw [Dr1 e3] at hs
 by_cases e4 : y.2.2 ≠ 0
 ·rw [Dr2 e4] at hs; injection hs with hs; rw [← hs]; exact e4
 rw [Dr1 e4] at hs
 by_cases e5 : Ag7 y.1 < 0
 ·rw [Dr2 e5] at hs; injection hs with hs; rw [← hs]; show (4 : Int) ≠ 0; decide
 rw [Dr1 e5] at hs
 by_cases e6 : Ag7 y.1 < Ag7 x.1
 ·rw [Dr2 e6] at hs; injection hs with hs; rw [← hs]; show (5 : Int) ≠ 0; decide
 rw [Dr1 e6] at hs
 cases hs
theorem Cs8 (L : List Nat) : ∀ (f : Nat) (fi : Bool) (on : List Bool) (i : Nat) (e : Int × Int), Do2 L f fi on i = .inl e → e.2 ≠ 0
 | 0, fi, on, i, e, h => by
  rw [Do2] at h
  injection h with h
  rw [← h]
  show (4 : Int) ≠ 0
  decide
 | f + 1, fi, on, i, e, h => by
  rw [Do2] at h
  by_cases hg : fi = true ∨ L.length ≤ i ∨ L.getD i 0 ≠ 93
  ·rw [Dr2 hg] at h
   cases hs : An6 L on i with
   | inl e' => rw [hs] at h; injection h with h; rw [← h]; exact Ck8 L on i e' hs
   | inr x => obtain ⟨on2, i2⟩ := x; rw [hs] at h; exact Cs8 L f false on2 i2 e h
  ·rw [Dr1 hg] at h; cases h
theorem Ck9 (L : List Nat) (at_ : Nat) : GoodP L at_ (Bf5 L at_).2 := by
 unfold Bf5
 simp only []
 cases hr : Do2 L (L.length + 2) true (List.replicate 256 false) (at_ + 1 + if negR L at_ = true then 1 else 0) with
 | inl e => exact fun h => absurd h (Cs8 L _ _ _ _ e hr)
 | inr x =>
  obtain ⟨on, i⟩ := x
  have := Cs7 L _ _ _ _ _ _ hr
  exact fun _ => ⟨i + 1, by show (i : Int) + 1 = _; omega, by omega, by rcases this.2 with h | h; omega; omega⟩
theorem Ar5 {L : List Nat} {at_ : Nat} {t : RTk} {e : Int × Int} (h : GoodP L at_ e) : GoodP L at_ (Da0 L t e).2 := by
 unfold Da0
 by_cases h1 : e.2 ≠ 0
 ·rw [Dr2 h1]; exact h
 rw [Dr1 h1]
 obtain ⟨j, h2, h3, h4⟩ := h (by simpa using h1)
 obtain ⟨e1, e2⟩ := e
 simp only [] at h2
 subst h2
 simp only [Ds1]
 by_cases h5 : j < L.length ∧ L.getD j 0 = 63
 ·rw [Dr2 h5]; exact fun _ => ⟨j + 1, rfl, by omega, by omega⟩
 ·rw [Dr1 h5]; exact fun _ => ⟨j, rfl, by omega, by omega⟩
theorem An7 {L : List Nat} {at_ : Nat} (m n : Int) {i : Nat} (h : at_ ≤ i) : GoodP L at_ (N3 L m n i).2.2 := by
 unfold N3
 by_cases h1 : L.length ≤ i ∨ L.getD i 0 ≠ 125
 ·rw [Dr2 h1]; exact Z4 (by decide)
 ·rw [Dr1 h1]
  have := Dz6.1 h1
  exact fun _ => ⟨i + 1, by show (i : Int) + 1 = _; omega, by omega, by omega⟩
theorem Cc7 (L : List Nat) (hL : ∀ b ∈ L, b < 256) (at_ : Nat) : GoodP L at_ (P4 L at_).2.2 := by
 obtain ⟨_, _, i, hi, hi1, hi2⟩ := P6 L hL at_
 unfold P4
 simp only []
 generalize J5 L at_ = a at *
 obtain ⟨m, p, e⟩ := a
 simp only [] at hi
 subst hi
 simp only [Ds1]
 by_cases h1 : e ≠ 0
 ·rw [Dr2 h1]; exact Z4 h1
 rw [Dr1 h1]
 by_cases h2 : i < L.length ∧ L.getD i 0 = 44
 ·rw [Dr2 h2]
  by_cases h3 : L.length ≤ i + 1 ∨ L.getD (i + 1) 0 ≠ 125
  ·rw [Dr2 h3]
   obtain ⟨_, _, k, hk, hk1, hk2⟩ := P6 L hL (i + 1)
   generalize J5 L (i + 1) = b at *
   obtain ⟨m2, p2, e2⟩ := b
   simp only [] at hk
   subst hk
   simp only [Ds1]
   by_cases h4 : e2 ≠ 0
   ·rw [Dr2 h4]; exact Z4 h4
   rw [Dr1 h4]
   by_cases h5 : m2 < m
   ·rw [Dr2 h5]; exact Z4 (by decide)
   rw [Dr1 h5]
   exact An7 m m2 (by omega)
  ·rw [Dr1 h3]; exact An7 m (-1) (by omega)
 ·rw [Dr1 h2]; exact An7 m m (by omega)
theorem GoodP.low {L : List Nat} {a b : Nat} {e : Int × Int} (h : GoodP L b e) (hab : a ≤ b) : GoodP L a e := fun h' => by
 obtain ⟨j, h1, h2, h3⟩ := h h'
 exact ⟨j, h1, by omega, h3⟩
theorem By1 (L : List Nat) (hL : ∀ b ∈ L, b < 256) (at_ : Nat) (h : at_ < L.length) : GoodP L at_ (Cg6 L at_).2 := by
 have h1 : GoodP L at_ ((at_ : Int) + 1, 0) := GoodP.one h
 unfold Cg6
 simp only []
 generalize L.getD at_ 0 = c
 by_cases c1 : c = 92
 ·rw [Dr2 c1]; exact Dm2 L at_
 rw [Dr1 c1]
 by_cases c2 : c = 91
 ·rw [Dr2 c2]; exact Ck9 L at_
 rw [Dr1 c2]
 by_cases c3 : c = 40
 ·rw [Dr2 c3]
  by_cases d1 : at_ + 1 < L.length ∧ L.getD (at_ + 1) 0 = 63
  ·rw [Dr2 d1]
   by_cases d2 : L.length ≤ at_ + 2 ∨ L.getD (at_ + 2) 0 ≠ 58
   ·rw [Dr2 d2]; exact Z4 (by decide)
   ·rw [Dr1 d2]
    have := Dz6.1 d2
    exact fun _ => ⟨at_ + 3, by show (at_ : Int) + 3 = _; omega, by omega, by omega⟩
  ·rw [Dr1 d1]; exact h1
 rw [Dr1 c3]
 by_cases c4 : c = 41
 ·rw [Dr2 c4]; exact h1
 rw [Dr1 c4]
 by_cases c5 : c = 124
 ·rw [Dr2 c5]; exact h1
 rw [Dr1 c5]
 by_cases c6 : c = 46
 ·rw [Dr2 c6]; exact h1
 rw [Dr1 c6]
 by_cases c7 : c = 94 ∨ c = 36
 ·rw [Dr2 c7]; exact Z4 (by decide)
 rw [Dr1 c7]
 by_cases c8 : c = 93 ∨ c = 125
 ·rw [Dr2 c8]; exact Z4 (by decide)
 rw [Dr1 c8]
 by_cases c9 : c ∉ C2 cntT
 ·rw [Dr2 c9]; exact h1
 rw [Dr1 c9]
 by_cases e1 : c = 43
 ·rw [Dr2 e1]; exact Ar5 h1
 rw [Dr1 e1]
 by_cases e2 : c = 63
 ·rw [Dr2 e2]; exact Ar5 h1
 rw [Dr1 e2]
 by_cases e3 : c = 123
 ·rw [Dr2 e3]; exact Ar5 ((Cc7 L hL (at_ + 1)).low (by omega))
 rw [Dr1 e3]
 exact Ar5 h1
def S5 (l : List RTk) : List Value := l.flatMap Ao1
theorem Bp3 (l : List RTk) (t : RTk) : S5 (l ++ [t]) = S5 l ++ Ao1 t := by simp [S5]
theorem rscan_c (s : ByteArray) (hs : s.size ≤ 1000) (w : World) : Calls P 118 #[.string s] w (Ret fun u w' => Chg [] w w' ∧ ∃ A c, u = .tuple #[.slice A (M5 (C2 s)).1.length c, .int .i64 (M5 (C2 s)).2.1, .int .i64 (M5 (C2 s)).2.2] ∧ Rd (FR w.heap.size w'.heap.size []) w' 10 A (M5 (C2 s)).1.length (S5 (M5 (C2 s)).1)) := by
 have hC := A8 [] w
 have hsl := E7 s
 have hlt := W5 s
 have hr : Aa1 (C2 s) ((C2 s).length + 1) 0 [] = M5 (C2 s) := rfl
 generalize M5 (C2 s) = r at *
 refine D3 Tryz.func118 rfl rfl (Qd (Zc 3 rfl (Qd (Zc 1 rfl (Qa (Qd (Zc 1 rfl (B0 (D7 (σ := Nat × Nat × List RTk × Option Addr × Nat) (fun (f, at_, l, A, c) => [(0, .string s), (5, .slice A l.length c), (6, .int .i64 at_)]) (fun (f, at_, l, A, c) wr => Chg [] w wr ∧ Own wr w.heap.size 231 10 A l.length c (S5 l) ∧ Aa1 (C2 s) f at_ l = r ∧ (C2 s).length < at_ + f ∧ at_ ≤ (C2 s).length ∧ l.length ≤ at_) (fun (f, at_, l, A, c) wr => f) ((C2 s).length + 1, 0, [], none, 0) (sb rfl) ?_ ?_)))))))))
 ·exact ⟨hC, Own.nil _ _ _ _, hr, by omega, by omega, by simp⟩
 rintro ⟨f, at_, l, A, c⟩ w9 ⟨hC, hO, hN, hf, hat, hll⟩
 obtain ⟨f, rfl⟩ : ∃ g, f = g + 1 := ⟨f - 1, by omega⟩
 have hOb := hO.blk
 rw [Aa1] at hN
 try have hzw := hC.size
 refine Qa (Qd (Z 2 rfl (C7 rfl (F4 Tryz.underlying9 rfl) (Zc 1 rfl (A4 rfl (fun h1 => ?_) (fun h1 => ?_))))))
 ·try simp at h1
  have hin : at_ < s.size := by omega
  rw [Dr2 (by omega)] at hN
  simp only [] at hN
  have hg := By1 (C2 s) hlt at_ (by omega)
  refine A7 (B0 (Qd (Z 2 rfl (Ca fb145 rfl (rone_c s hs at_ hin _) ?_))))
  rintro _ w1 ⟨hx1, rfl⟩
  have hz1 := hx1.size
  generalize Cg6 (C2 s) at_ = x at *
  obtain ⟨x, p, e⟩ := x
  refine Z 3 rfl (B4 rfl (B6 Ce5 rfl) ?_)
  intro b2 w2 hb2 hs2 hx2 hB2
  refine B4 rfl (B6 I7 rfl) ?_
  intro b3 w3 hb3 hs3 hx3 hB3
  have hO := hO.u ((hx1.s0 hx2).s0 hx3)
  have hB2 := hB2.u hx3
  refine Pe T0 rfl ‹_› rfl rfl ?_
  intro w4 hs4 hx4 hB2
  have hO := (by exact hO.q hx4 (by intro x hx; have hx := Dr4.1 hx; right; intro h; have := hOb x (by rw [h]; exact Dr4.2 rfl); omega))
  have hB3 := hB3.q hx4 (by simp; omega)
  refine Pe G1 rfl ‹_› rfl rfl ?_
  intro w5 hs5 hx5 hB3
  have hC := hC.step ((((hx1.j hx2).j hx3).j hx4).j hx5) (by simp <;> omega)
  have hO := (by exact hO.q hx5 (by intro x hx; have hx := Dr4.1 hx; right; intro h; have := hOb x (by rw [h]; exact Dr4.2 rfl); omega))
  have hB2 := hB2.q hx5 (by simp; omega)
  refine Qc (Qa (Qd (Fa Y9 rfl (Lb o3 rfl ‹_› (by rfl) ?_))))
  refine Zc 1 rfl (A4 rfl (fun e1 => ?_) (fun e1 => ?_))
  ·try simp at e1
   rw [Dr2 e1] at hN
   subst hN
   refine Qa (C6 (S := []) 6 [(0, 0), (0, 1), (0, 2), (0, 3), (0, 4), (0, 5), (2, 6)] mo (by kernel_rfl) ?_)
   intro w6 hx6 hh6
   have hC := hC.s0 hx6
   have hB3 := hB3.u hx6
   refine Fa G0 rfl (D5 rfl (B2 o3 rfl ‹_› (by simp; done) (by rfl)) ?_)
   refine Fa Y9 rfl (D5 rfl (B2 o3 rfl ‹_› (by simp; done) (by rfl)) ?_)
   exact Zc 3 rfl (A6 (M0 rfl rfl rfl rfl ⟨hC, none, 0, rfl, Rd.nil _ _ _ _⟩))
  ·try simp at e1
   have e1' : e = 0 := by simpa using e1
   subst e1'
   obtain ⟨j, hj, hj1, hj2⟩ := hg rfl
   simp only [] at hj
   subst hj
   rw [Dr1 (by simp)] at hN
   simp only [Ds1] at hN
   refine A7 (Qd (Fa G0 rfl (Lb o3 rfl ‹_› (by rfl) ?_)))
   refine Fa Bs6 rfl (Pe sz3 rfl ‹_› rfl rfl ?_)
   intro w7 hs7 hx7 hB2
   have hO := (by exact hO.q hx7 (by intro x hx; have hx := Dr4.1 hx; right; intro h; have := hOb x (by rw [h]; exact Dr4.2 rfl); omega))
   refine Qc (Qd (Z 1 rfl (La J3 rfl ‹_› rfl rfl ?_)))
   refine B4 rfl (B5 Ah5 Tryz.underlying187 Ce5 rfl rfl rfl (by rfl)) ?_
   intro b8 w8 hb8 hs8 hx8 hB8
   have hC := hC.step (hx7.j hx8) (by simp <;> omega)
   have hO := hO.u hx8
   have hB3 := hB3.q (hx7.j hx8) (by simp <;> omega)
   refine G5 rfl el187 rfl rfl hO (Blk.rd (F := fun _ => True) ‹_› rfl trivial) (by rfl) (by omega) (by omega) ?_
   intro A' c' w9 hO9 hx9 hA'
   have hC := hC.step hx9 (by intro x h; have := hOb x h; exact .inr (by omega))
   have hB3 := hB3.q hx9 (by intro h; have := hOb _ h; omega)
   replace hO := hO9
   refine Zc 1 rfl (Qb (Fa G0 rfl (Lb o3 rfl ‹_› (by rfl) ?_)))
   refine Zc 1 rfl ⟨(f, j, l ++ [{ x with till := (j : Int) }], A', c'), ⟨rfl, (S6 rfl (by rw [Dr7]; rfl)), rfl, trivial⟩, ?_, ?_⟩
   refine ⟨hC, by rw [Dr7, Bp3]; exact hO, hN, by omega, by omega, by simp; omega⟩
   show f < f + 1
   omega
 ·try simp at h1
  rw [Dr1 (by omega)] at hN
  subst hN
  exact Xb (Qd (Z 2 rfl (Ln Tryz.underlying187 rfl (Zc 3 rfl (A6 (M0 rfl rfl rfl rfl ⟨hC, A, c, rfl, hO.rd (fun x h1 h2 => ⟨h1, h2, by simp⟩)⟩))))))
theorem Bp4 (t : RTk) : (Ao1 t).length = 10 := rfl
theorem L5 (l : List RTk) : ∀ (k c : Nat), k < l.length → c < 10 → (S5 l)[k * 10 + c]? = (Ao1 (l.getD k default))[c]? := by
 induction l with
 | nil => intro k c h; simp at h
 | cons t r ih =>
  intro k c h hc
  cases k with
  | zero =>
   show (Ao1 t ++ S5 r)[0 * 10 + c]? = _
   rw [Du1 (by rw [Bp4]; omega)]
   simp
  | succ k =>
   have := ih k c (by simpa using h) hc
   show (Ao1 t ++ S5 r)[(k + 1) * 10 + c]? = _
   rw [Dt8 (by rw [Bp4]; omega), Bp4, show (k + 1) * 10 + c - 10 = k * 10 + c by omega, this]
   simp
def Bg2 (l : List RTk) (at_ : Nat) (size : Int) : Int := if at_ < l.length then (l.getD at_ default).frm else size
theorem rbegin_c (l : List RTk) (F : Nat → Prop) (A : Option Addr) (c : Nat) (at_ : Nat) (size : Int) (hat : at_ ≤ 100000) (hl : l.length ≤ 100000) (w : World) (hF : ∀ x, F x → x < w.heap.size) (hr : Rd F w 10 A l.length (S5 l)) : Calls P 174 #[.slice A l.length c, .int .i64 (at_ : Nat), .int .i64 size] w (Ret fun u w' => u = .int .i64 (Bg2 l at_ size) ∧ Chg [] w w') := by
 have hC := A8 [] w
 refine D3 Tryz.func174 rfl rfl (Qd (Zc 1 rfl (Qa (Qd (Z 2 rfl (Ln Tryz.underlying187 rfl (Zc 1 rfl (A4 rfl (fun h1 => ?_) (fun h1 => ?_)))))))))
 ·try simp at h1
  have hin : at_ < l.length := by omega
  obtain ⟨g, off, rfl, hFg, hlt, hcell⟩ := hr.at_ (by omega)
  have hc1 := hcell (at_ * 10 + 1) _ ((L5 l at_ 1 hin (by omega)).trans rfl)
  exact Qd (Z 2 rfl (C7 rfl (B9 Ah5 rfl rfl (by omega) (by omega)) (Fa An3 rfl (Lc o3 rfl hc1 (Zc 1 rfl (A6 (B1 rfl rfl ⟨I9 (by unfold Bg2; rw [Dr2 hin]), hC⟩)))))))
 ·try simp at h1
  exact A7 (Qd (Zc 2 rfl (A6 (B1 rfl rfl ⟨I9 (by unfold Bg2; rw [Dr1 (by omega)]), hC⟩))))
def Ai0 (l : List RTk) : Nat → Nat → Nat → Int
 | 0, _, _ => -1
 | f + 1, i, d =>
  if i < l.length then
   if (l.getD i default).kind = 1 ∨ (l.getD i default).kind = 2 then Ai0 l f (i + 1) (d + 1)
   else if (l.getD i default).kind = 3 then (if d = 0 then (i : Int) else Ai0 l f (i + 1) (d - 1))
   else Ai0 l f (i + 1) d
  else -1
def Av8 (l : List RTk) (i : Nat) : Int := Ai0 l (l.length + 1 - i) i 0
theorem rclose_c (l : List RTk) (F : Nat → Prop) (A : Option Addr) (c : Nat) (i0 : Nat) (hi0 : i0 ≤ 100000) (hl : l.length ≤ 100000) (w : World) (hF : ∀ x, F x → x < w.heap.size) (hr : Rd F w 10 A l.length (S5 l)) : Calls P 173 #[.slice A l.length c, .int .i64 (i0 : Nat)] w (Ret fun u w' => u = .int .i64 (Av8 l i0) ∧ Chg [] w w') := by
 have hC := A8 [] w
 have hR : Ai0 l (l.length + 1 - i0) i0 0 = Av8 l i0 := rfl
 generalize Av8 l i0 = r at *
 refine D3 Tryz.func173 rfl rfl (Qd (Zc 1 rfl (Qd (Zc 1 rfl (Qa (Qd (Zc 2 rfl (B0 (D7 (σ := Nat × Nat) (fun (i, d) => [(0, .slice A l.length c), (5, .int .i64 d), (6, .int .i64 i)]) (fun (i, d) wr => Chg [] w wr ∧ Rd F wr 10 A l.length (S5 l) ∧ Ai0 l (l.length + 1 - i) i d = r ∧ i ≤ 200000 ∧ d ≤ i) (fun (i, d) wr => 200000 - i) (i0, 0) (sb rfl) ?_ ?_)))))))))
 ·exact ⟨hC, hr, hR, by omega, by omega⟩
 rintro ⟨i, d⟩ w9 ⟨hC, hr, hR, hi, hd⟩
 refine Qa (Qd (Z 2 rfl (Ln Tryz.underlying187 rfl (Zc 1 rfl (A4 rfl (fun h1 => ?_) (fun h1 => ?_))))))
 ·try simp at h1
  have hin : i < l.length := by omega
  rw [show l.length + 1 - i = (l.length + 1 - (i + 1)) + 1 by omega, Ai0, Dr2 hin] at hR
  obtain ⟨g, off, rfl, hFg, hlt, hcell⟩ := hr.at_ (by omega)
  have hc1 := hcell (i * 10 + 0) _ ((L5 l i 0 hin (by omega)).trans rfl)
  refine A7 (Qa (B0 (Qd (Z 2 rfl (C7 rfl (B9 Ah5 rfl rfl (by omega) (by omega)) (Fa Q4 rfl (Lc o3 rfl hc1 (Qc (B0 (Qa (Qd (Zc 2 rfl (A4 rfl (fun k1 => ?_) (fun k1 => ?_))))))))))))))
  ·refine A7 (E1 (G9 rfl k1) ?_)
   rw [cmpB_eql] at k1
   rw [Dr2 (.inl k1)] at hR
   refine Qb (Z 1 rfl (Ad rfl rfl (by omega) (Zc 1 rfl (Qb (Z 1 rfl (Ad rfl rfl (by omega) (Zc 1 rfl ⟨(i + 1, d + 1), sb rfl, ?_, ?_⟩)))))))
   exact ⟨hC, hr, hR, by omega, by omega⟩
   show 200000 - (i + 1) < 200000 - i
   omega
  ·rw [cmpB_eqlF] at k1
   refine Qb (Zc 2 rfl (A4 rfl (fun k2 => ?_) (fun k2 => ?_)))
   ·rw [cmpB_eql] at k2
    rw [Dr2 (.inr k2)] at hR
    refine Qb (Z 1 rfl (Ad rfl rfl (by omega) (Zc 1 rfl (Qb (Z 1 rfl (Ad rfl rfl (by omega) (Zc 1 rfl ⟨(i + 1, d + 1), sb rfl, ?_, ?_⟩)))))))
    exact ⟨hC, hr, hR, by omega, by omega⟩
    show 200000 - (i + 1) < 200000 - i
    omega
   ·rw [cmpB_eqlF] at k2
    rw [Dr1 (Dz6.2 ⟨k1, k2⟩)] at hR
    refine Qd (Zc 2 rfl (A4 rfl (fun k3 => ?_) (fun k3 => ?_)))
    ·rw [cmpB_eql] at k3
     rw [Dr2 k3] at hR
     refine Qa (Qd (Zc 2 rfl (A4 rfl (fun k4 => ?_) (fun k4 => ?_))))
     ·try simp at k4
      have k4' : d = 0 := by omega
      rw [Dr2 k4'] at hR
      exact Qd (Zc 2 rfl (A6 (B1 rfl rfl ⟨I9 hR, hC⟩)))
     ·try simp at k4
      have k4' : ¬ d = 0 := by omega
      rw [Dr1 k4'] at hR
      refine A7 (Qb (Z 1 rfl (Su rfl rfl (by omega) (Zc 1 rfl (Qb (Z 1 rfl (Ad rfl rfl (by omega) (Zc 1 rfl ⟨(i + 1, d - 1), ⟨rfl, (F9 rfl (by omega)), rfl, trivial⟩, ?_, ?_⟩))))))))
      exact ⟨hC, hr, hR, by omega, by omega⟩
      show 200000 - (i + 1) < 200000 - i
      omega
    ·rw [cmpB_eqlF] at k3
     rw [Dr1 k3] at hR
     refine A7 (Qb (Z 1 rfl (Ad rfl rfl (by omega) (Zc 1 rfl ⟨(i + 1, d), sb rfl, ?_, ?_⟩))))
     exact ⟨hC, hr, hR, by omega, by omega⟩
     show 200000 - (i + 1) < 200000 - i
     omega
 ·try simp at h1
  have hX : Ai0 l (l.length + 1 - i) i d = -1 := by
   cases hf : l.length + 1 - i with
   | zero => rfl
   | succ f => rw [Ai0, Dr1 (by omega)]
  exact Xb (Qd (Zc 1 rfl (A6 (B1 rfl rfl ⟨I9 (hX.symm.trans hR), hC⟩))))
end Go.Clt
