import Derived.Calls
import Derived.OrdersHeld
import Derived.Still
import Derived.Tactics
import Derived.Below
import Derived.Laws.AppendOwn
import Derived.Laws.Sem
import Derived.KernelRfl
import Derived.Laws.CopyRow
import Derived.Laws.Tables
import Derived.Laws.Entries
import Derived.Laws.IdiomRangeMap
import Derived.WalkKit
import Derived.Laws.CopyOwn
import Derived.Laws.MakeOwn
import Derived.Laws.Slices
import Derived.Maps.AppendAt
import Derived.Test.YtckdapbopihofaaGreatDoorProg
import Derived.Shelf.Strings.Builder1
import Derived.Shelf.Small.Strs
import Derived.Shelf.Strconv.Itoa0
import Derived.Shelf.Strconv.Itoa1
import Derived.Shelf.LaysM
import Derived.Shelf.Strconv.Itoa2
import Derived.Shelf.Strconv.Itoa3
import Derived.Shelf.Strings.Search1
import Derived.Shelf.Bits.Mul64
import Derived.Laws.Externs
import Derived.Lib.TrailingZeros
import Derived.ChangeKeysEq
import Derived.Maps.RangeRun
import Derived.Lib.AppendStr
import Derived.Laws.IdiomStrings
import Derived.Test.YtckdapbopihofaaGreatDoorRows
import Derived.Test.YtckdapbopihofaaGreatDoorCards
import Derived.Test.YtckdapbopihofaaGreatDoorTie
import Derived.ProofKit
import Derived.OpenShut
import Derived.LaidSub
import Derived.Deep.DeepHandedRow
import Derived.Lib.LaidTab
import Derived.Test.YtckdapbopihofaaGreatDoorWordsNonePk5
/- WordsNone: for every input the law answers true, its arguments left as they were (the tied card). A part of that proof: Dfa2, DfaI, Dfa3, DfaK, Dfa4, Dfa5, Dfa6, Dfa7, Dfa8, Dfa9, Aw0, Aw1, Aw2, Row0, Inv, WordP, Word1, Word2, Word3, Word4, Aw3. Conditions: none beyond the statement's own. By an AI agent; no person has read it. -/
section
set_option linter.unusedVariables false
set_option linter.unusedSimpArgs false
set_option maxRecDepth 4000
namespace Go.Clt
set_option maxHeartbeats 4000000
open Go Go.RowKit Go.Proofs
theorem behind_c (F : Nat → Prop) (p pa pb : Nat) (E : DE) (D : DS) (Ab : Option Addr) (cb : Nat) (Al : Option Addr) (cl bm : Nat) (ms : List StM) (n b : Nat) (w : World) (hq : E.q.S.length ≤ 1000000) (hn : n < D.l.length) (hnl : D.l.length ≤ 1000000) (hb : b < 256)
    (hD : DOk F w p pa pb E D Ab cb Al cl bm ms) (hv : ∀ x ∈ (D.l.getD n default).l, x < E.q.S.length) (hl : (D.l.getD n default).l.length ≤ 1000000) :
    Calls P 78 #[.pointer (some ⟨p, 0, none⟩), .int .i64 (n : Nat), .int .u8 (b : Nat)] w (Ret fun u w' => Chg [] w w' ∧ ∃ A' c', u = .slice A' (behindP E D.l n b).length c' ∧ Own w' w.heap.size 3 1 A' (behindP E D.l n b).length c' (nats (behindP E D.l n b))) := by
  have hC := Chg.refl [] w
  obtain ⟨hB0, hA, hI, hF, hOy, hO, hM, hbp, hT, hslo, hmv, hlb⟩ := hD
  have hbl := hB0.lt
  try have hlB0 := hB0.lt
  refine enter Tryz.func78 rfl rfl ?_
  refine EW.seq ?_
  refine EW.reg ?_
  refine EP.o rfl (Does.assign rfl) ?_
  refine EP.nil ?_
  refine EW.seq ?_
  refine EW.seq ?_
  refine EW.reg ?_
  refine EP.o rfl (Does.move rfl) ?_
  refine EP.o rfl (Does.cmp rfl rfl rfl) ?_
  refine EP.nil ?_
  refine EW.cond rfl (fun h1 => ?_) (fun h1 => ?_)
  · try simp at h1
    have hE : behindP E D.l n b = beginL E.k E.q b := by unfold behindP; rw [if_pos (by omega)]
    rw [hE]
    refine EW.seq ?_
    refine EW.drw' (S := []) 7 [(0, 0), (0, 1), (0, 2), (0, 3), (0, 4), (1, 5), (1, 6), (2, 7), (2, 8)] mo (by kernel_rfl) ?_
    intro w1 hx1 hh1
    have hz1 := hx1.size
    replace hC := hC.step0 hx1
    replace hB0 := hB0.chg0 hx1
    replace hA := hA.chg0 hx1
    replace hO := hO.chg0 hx1
    replace hT := hT.chg0 hx1
    have hCS1 := Chg.refl ([]) w1
    refine EP.f rfl (Does.move rfl) ?_
    refine EP.f rfl (Does.nilCheck rfl) ?_
    refine EP.f rfl (Does.fieldAddr fl86_0 rfl) ?_
    refine EP.f rfl (Does.loadBc o22 rfl (by assumption) (by simp; done) (by rfl)) ?_
    refine EP.f rfl (Does.move rfl) ?_
    refine EP.new1 rfl (News.buildL sl44 Tryz.underlying44 zr5 rfl rfl rfl (by rfl)) ?_
    intro b2 w2 hb2 hs2 hx2 hB2
    have hz2 := hx2.size
    replace hC := hC.step0 hx2
    replace hB0 := hB0.chg0 hx2
    replace hA := hA.chg0 hx2
    replace hO := hO.chg0 hx2
    replace hT := hT.chg0 hx2
    replace hCS1 := hCS1.step0 hx2
    refine ⟨hCS1, ?_⟩
    refine EP.o1 rfl (Does.toStr (l := [b]) (F := fun _ => True) rfl rfl (by intro x hx; simp at hx; omega) (Blk.rd (by assumption) rfl trivial)) (by assumption) ?_
    refine EP.call2 rfl (Enters.fn fb105 rfl) (alive_c F pa E.k E.q _ b _ (strL_wordB [b] (by intro x hx; simp at hx; omega)) hb hq hA (fun x h => by have := hF x h; omega)) ?_
    rintro v9 w3 ⟨hx3, A', c', rfl, hO2⟩
    have hz3 := hx3.size
    replace hC := hC.step0 hx3
    replace hB0 := hB0.chg0 hx3
    replace hA := hA.chg0 hx3
    replace hO := hO.chg0 hx3
    replace hT := hT.chg0 hx3
    replace hB2 := hB2.chg0 hx3
    refine EP.o rfl (Does.assign rfl) ?_
    refine EP.nil ?_
    refine EW.ret ?_
    refine Fin.one rfl rfl ?_
    exact ⟨hC, A', c', rfl, hO2.lower (by omega)⟩
  · try simp at h1
    have hE : behindP E D.l n b = nextL E.q (D.l.getD n default).l b := by unfold behindP; rw [if_neg (by omega)]
    rw [hE]
    have hml := hT.len
    have hAl : ∃ g off, Al = some ⟨g, off, none⟩ := by obtain ⟨g, off, h, _⟩ := (hO.rd (F := fun _ => True) (fun _ _ _ => trivial)).at_ (by omega); exact ⟨g, off, h⟩
    obtain ⟨g, off, rfl⟩ := hAl
    have hrl := hO.rd (F := fun _ => True) (fun _ _ _ => trivial)
    have hcell := (hrl.one (ptrsV_get ms n (by omega))).2
    have hk := hT.ok n hn
    have hBn := hk.blk
    try have hlBn := hBn.lt
    refine EW.skip ?_
    refine EW.seq ?_
    refine EW.drw' (S := []) 15 [(0, 0), (0, 1), (0, 2), (0, 3), (0, 4), (0, 5), (0, 6), (0, 7), (0, 8), (0, 9), (0, 10), (0, 11), (0, 12), (0, 13), (0, 14), (2, 15), (2, 16)] mo (by kernel_rfl) ?_
    intro w4 hx4 hh4
    have hz4 := hx4.size
    replace hC := hC.step0 hx4
    replace hB0 := hB0.chg0 hx4
    replace hA := hA.chg0 hx4
    replace hO := hO.chg0 hx4
    replace hT := hT.chg0 hx4
    replace hBn := hBn.chg0 hx4
    refine EP.f rfl (Does.move rfl) ?_
    refine EP.f rfl (Does.nilCheck rfl) ?_
    refine EP.f rfl (Does.fieldAddr fl86_0 rfl) ?_
    refine EP.f rfl (Does.loadBc o22 rfl (by assumption) (by simp; done) (by rfl)) ?_
    refine EP.f rfl (Does.move rfl) ?_
    refine EP.f rfl (Does.nilCheck rfl) ?_
    refine EP.f rfl (Does.fieldAddr fl86_3 rfl) ?_
    refine EP.f rfl (Does.loadBc o84 rfl (by assumption) (by simp; done) (by rfl)) ?_
    refine EP.f rfl (Does.move rfl) ?_
    refine EP.f rfl (Does.indexAddr1 sl84 rfl rfl (by omega) (by omega)) ?_
    refine EP.f rfl (Does.load1c o92 rfl (show World.cell? _ _ = _ from (Chg.cell (by assumption) (by simp) hcell)) (by first | (simp; done) | (simp; omega))) ?_
    refine EP.f rfl (Does.nilCheck rfl) ?_
    refine EP.f rfl (Does.fieldAddr fl91_0 rfl) ?_
    refine EP.f rfl (Does.loadBc o24 rfl (by assumption) (by simp; done) (by rfl)) ?_
    refine EP.f rfl (Does.move rfl) ?_
    refine EP.call2 rfl (Enters.fn fb106 rfl) (next_c F (fun x => x < w.heap.size) pa E.k E.q (D.l.getD n default).l b _ _ _ hb hq hl hv hA (fun x h => by have := hF x h; omega) (hk.rl.rd (fun x _ h => h) |>.chg0 (by assumption)) (fun x h => by omega)) ?_
    rintro v9 w5 ⟨hx5, A', c', rfl, hO2⟩
    have hz5 := hx5.size
    replace hC := hC.step0 hx5
    replace hB0 := hB0.chg0 hx5
    replace hA := hA.chg0 hx5
    replace hBn := hBn.chg0 hx5
    refine EP.o rfl (Does.assign rfl) ?_
    refine EP.nil ?_
    refine EW.ret ?_
    refine Fin.one rfl rfl ?_
    exact ⟨hC, A', c', rfl, hO2.lower (by omega)⟩
end Go.Clt
end
section
set_option linter.unusedVariables false
set_option linter.unusedSimpArgs false
set_option maxRecDepth 4000
namespace Go.Clt
open Go Go.RowKit Go.Proofs
structure DInv (E : DE) (D : DS) (n j : Nat) : Prop where
  nx : ∀ i, i < D.l.length → (D.l.getD i default).next.length = if i < n then E.bytes.length else if i = n then j else 0
  nv : ∀ i, i < D.l.length → ∀ v ∈ (D.l.getD i default).next, v < D.l.length
  pv : ∀ i, i < D.l.length → ∀ x ∈ (D.l.getD i default).l, x < E.q.S.length
  pl : ∀ i, i < D.l.length → (D.l.getD i default).l.length ≤ E.q.S.length
  wl : ∀ i, i < D.l.length → (D.l.getD i default).word.length ≤ i
  wb : ∀ i, i < D.l.length → ∀ b ∈ (D.l.getD i default).word, b < 256
  mv : ∀ x ∈ D.met, 0 ≤ x.2 ∧ x.2 < (D.l.length : Nat)
theorem beginL_lt (k : Kn) (q : Wst) (b : Nat) : (∀ x ∈ beginL k q b, x < q.S.length) ∧ (beginL k q b).length ≤ q.S.length := by
  have hl : (keptL q.S (rowL k.first q.S.length) b).length = q.S.length := by rw [keptL_len, rowL_len]
  unfold beginL someL
  rw [hl]
  refine ⟨fun x hx => List.mem_range.1 (List.mem_filter.1 hx).1, ?_⟩
  have := List.length_filter_le (fun i => decide (0 < (keptL q.S (rowL k.first q.S.length) b).getD i 0)) (List.range q.S.length)
  simpa using this
theorem nextL_lt (q : Wst) (l : List Nat) (b : Nat) : (∀ x ∈ nextL q l b, x < q.S.length) ∧ (nextL q l b).length ≤ q.S.length := by
  unfold nextL
  refine ⟨fun x hx => List.mem_range.1 (List.mem_filter.1 hx).1, ?_⟩
  have := List.length_filter_le (fun i => l.any fun p => goF q p b i) (List.range q.S.length)
  simpa using this
theorem behindP_lt (E : DE) (l : List St) (n b : Nat) : (∀ x ∈ behindP E l n b, x < E.q.S.length) ∧ (behindP E l n b).length ≤ E.q.S.length := by
  unfold behindP
  split
  · exact beginL_lt _ _ _
  · exact nextL_lt _ _ _
theorem meetP_cases (E : DE) (D : DS) (name : List UInt8) (s : St) (hm : ∀ x ∈ D.met, 0 ≤ x.2 ∧ x.2 < (D.l.length : Nat)) :
    ((meetP E D name s).2.l = D.l ∧ (meetP E D name s).2.met = D.met ∧ ((meetP E D name s).1 < D.l.length ∨ (meetP E D name s).1 = 0)) ∨
    ((meetP E D name s).2.l = D.l ++ [s] ∧ (meetP E D name s).2.met = mput D.met name (D.l.length : Nat) ∧ (meetP E D name s).1 = D.l.length) := by
  unfold meetP
  cases h : mget D.met name with
  | some v =>
    left
    have := hm _ (mem_of_mget h)
    simp only at this ⊢
    exact ⟨trivial, trivial, .inl (by omega)⟩
  | none =>
    simp only
    split
    · exact .inl ⟨rfl, rfl, .inr rfl⟩
    · exact .inr ⟨rfl, rfl, rfl⟩
theorem getD_snoc' {l : List St} {s : St} {i : Nat} (hi : i < l.length) : (l ++ [s]).getD i default = l.getD i default := by
  rw [getD_snoc _ _ _ _ (by omega), if_neg (by omega)]
theorem meet_inv {E : DE} {D : DS} {n j : Nat} (h : DInv E D n j) (name : List UInt8) (s : St) (hs : s.next = []) (hp : ∀ x ∈ s.l, x < E.q.S.length) (hpl : s.l.length ≤ E.q.S.length) (hw : s.word.length ≤ D.l.length) (hwb : ∀ b ∈ s.word, b < 256) (hn : n < D.l.length) :
    DInv E (meetP E D name s).2 n j ∧ (meetP E D name s).1 < (meetP E D name s).2.l.length ∧ D.l.length ≤ (meetP E D name s).2.l.length ∧ ∀ i, i < D.l.length → (meetP E D name s).2.l.getD i default = D.l.getD i default := by
  rcases meetP_cases E D name s h.mv with ⟨h1, h2, h3⟩ | ⟨h1, h2, h3⟩
  · rw [h1]
    refine ⟨⟨by rw [h1]; exact h.nx, by rw [h1]; exact h.nv, by rw [h1]; exact h.pv, by rw [h1]; exact h.pl, by rw [h1]; exact h.wl, by rw [h1]; exact h.wb, by rw [h1, h2]; exact h.mv⟩, by omega, Nat.le_refl _, fun i hi => rfl⟩
  · rw [h1, h3]
    have hl : (D.l ++ [s]).length = D.l.length + 1 := by simp
    have hlast : (D.l ++ [s]).getD D.l.length default = s := by rw [getD_snoc _ _ _ _ (Nat.le_refl _), if_pos rfl]
    have old : ∀ {Q : Nat → St → Prop}, (∀ i, i < D.l.length → Q i (D.l.getD i default)) → Q D.l.length s → ∀ i, i < (D.l ++ [s]).length → Q i ((D.l ++ [s]).getD i default) := fun {Q} h1 h2 i hi => by
      by_cases h : i < D.l.length
      · rw [getD_snoc' h]; exact h1 i h
      · have : i = D.l.length := by omega
        subst this
        rw [hlast]; exact h2
    refine ⟨⟨?_, ?_, ?_, ?_, ?_, ?_, ?_⟩, by omega, by omega, fun i hi => getD_snoc' hi⟩
    · rw [h1]
      exact old (Q := fun i t => t.next.length = if i < n then E.bytes.length else if i = n then j else 0) h.nx (by rw [if_neg (by omega), if_neg (by omega), hs]; rfl)
    · rw [h1]
      exact old (Q := fun i t => ∀ v ∈ t.next, v < (D.l ++ [s]).length) (fun i hi v hv => by have := h.nv i hi v hv; omega) (by rw [hs]; simp)
    · rw [h1]; exact old (Q := fun i t => ∀ x ∈ t.l, x < E.q.S.length) h.pv hp
    · rw [h1]; exact old (Q := fun i t => t.l.length ≤ E.q.S.length) h.pl hpl
    · rw [h1]; exact old (Q := fun i t => t.word.length ≤ i) h.wl hw
    · rw [h1]; exact old (Q := fun i t => ∀ b ∈ t.word, b < 256) h.wb hwb
    · rw [h1, h2]
      intro x hx
      rcases mput_mem hx with rfl | hx
      · simp only; omega
      · have := h.mv x hx; omega
theorem addNext_inv {E : DE} {D : DS} {n j v : Nat} (h : DInv E D n j) (hn : n < D.l.length) (hv : v < D.l.length) : DInv E (addNext D n v) n (j + 1) := by
  have hl : (addNext D n v).l.length = D.l.length := by simp [addNext]
  have hg : ∀ i, (addNext D n v).l.getD i default = if i = n then { D.l.getD n default with next := (D.l.getD n default).next ++ [v] } else D.l.getD i default := fun i => by
    unfold addNext; exact getD_set _ _ _ _ _ hn
  refine ⟨fun i hi => ?_, fun i hi => ?_, fun i hi => ?_, fun i hi => ?_, fun i hi => ?_, fun i hi => ?_, ?_⟩
  · rw [hl] at hi
    rw [hg]
    have := h.nx i hi
    by_cases hin : i = n
    · subst hin
      rw [if_pos rfl, if_neg (by omega), if_pos rfl]
      rw [if_neg (by omega), if_pos rfl] at this
      rw [List.length_append, this]; rfl
    · rw [if_neg hin, this]
      by_cases h1 : i < n
      · rw [if_pos h1, if_pos h1]
      · rw [if_neg h1, if_neg h1, if_neg hin, if_neg hin]
  · rw [hl] at hi ⊢
    rw [hg]
    by_cases hin : i = n
    · subst hin
      rw [if_pos rfl]
      intro x hx
      rcases List.mem_append.1 hx with hx | hx
      · exact h.nv i hi x hx
      · simp at hx; omega
    · rw [if_neg hin]; exact h.nv i hi
  · rw [hl] at hi
    rw [hg]
    by_cases hin : i = n
    · subst hin; rw [if_pos rfl]; exact h.pv i hi
    · rw [if_neg hin]; exact h.pv i hi
  · rw [hl] at hi
    rw [hg]
    by_cases hin : i = n
    · subst hin; rw [if_pos rfl]; exact h.pl i hi
    · rw [if_neg hin]; exact h.pl i hi
  · rw [hl] at hi
    rw [hg]
    by_cases hin : i = n
    · subst hin; rw [if_pos rfl]; exact h.wl i hi
    · rw [if_neg hin]; exact h.wl i hi
  · rw [hl] at hi
    rw [hg]
    by_cases hin : i = n
    · subst hin; rw [if_pos rfl]; exact h.wb i hi
    · rw [if_neg hin]; exact h.wb i hi
  · rw [hl]; exact h.mv
theorem newSt_word (E : DE) (l : List St) (n b : Nat) : (newSt E l n b).word = (l.getD n default).word ++ [b] := rfl
theorem DInv.go {E : DE} {D : DS} {n : Nat} (h : DInv E D n E.bytes.length) : DInv E D (n + 1) 0 := by
  refine ⟨fun i hi => ?_, h.nv, h.pv, h.pl, h.wl, h.wb, h.mv⟩
  rw [h.nx i hi]
  by_cases h1 : i < n
  · rw [if_pos h1, if_pos (by omega)]
  · rw [if_neg h1]
    by_cases h2 : i = n
    · rw [if_pos h2, if_pos (by omega)]
    · rw [if_neg h2, if_neg (by omega)]; split <;> rfl
def st0 (E : DE) : St := ⟨[], [], [], decide (0 < E.k.void), false⟩
def D0 (E : DE) : DS := (meetP E ⟨[], [], false⟩ firstN (st0 E)).2
theorem exploreP_eq (E : DE) : exploreP E = exploreL E (E.budget + 1) 0 (D0 E) := rfl
theorem D0_inv (E : DE) : DInv E (D0 E) 0 0 := by
  unfold D0 meetP
  simp only [mget_nil]
  split
  · exact ⟨by simp, by simp, by simp, by simp, by simp, by simp, by simp⟩
  · simp only [List.nil_append, List.length_nil]
    have key : ∀ {Q : Nat → St → Prop}, Q 0 (st0 E) → ∀ i, i < [st0 E].length → Q i ([st0 E].getD i default) := fun {Q} h i hi => by
      simp at hi; subst hi; exact h
    refine ⟨key (Q := fun i t => t.next.length = if i < 0 then E.bytes.length else if i = 0 then 0 else 0) (by simp [st0]), key (Q := fun i t => ∀ v ∈ t.next, v < [st0 E].length) (by simp [st0]), key (Q := fun i t => ∀ x ∈ t.l, x < E.q.S.length) (by simp [st0]), key (Q := fun i t => t.l.length ≤ E.q.S.length) (by simp [st0]), key (Q := fun i t => t.word.length ≤ i) (by simp [st0]), key (Q := fun i t => ∀ b ∈ t.word, b < 256) (by simp [st0]), fun x hx => ?_⟩
    simp [mput] at hx
    subst hx
    simp
theorem DOk.chg0 {F : Nat → Prop} {w w' : World} {p pa pb : Nat} {E : DE} {D : DS} {Ab : Option Addr} {cb : Nat} {Al : Option Addr} {cl bm : Nat} {ms : List StM} (h : DOk F w p pa pb E D Ab cb Al cl bm ms) (k : Chg [] w w') : DOk F w' p pa pb E D Ab cb Al cl bm ms :=
  ⟨h.blk.chg0 k, h.aut.chg0 k, h.bl.chg0 k, h.hF, h.ob.chg0 k, h.ol.chg0 k, h.mp.chg0 k, h.bp, h.sts.chg0 k, h.slo, h.mv, h.lb⟩
theorem ptrsV_set (ms : List StM) (n : Nat) (m : StM) (hm : m.p = (ms.getD n default).p) : ptrsV (ms.set n m) = ptrsV ms := by
  apply List.ext_getElem?
  intro i
  simp only [ptrsV, List.getElem?_map, List.getElem?_set]
  by_cases h : n = i
  · subst h
    rw [if_pos rfl]
    by_cases hl : n < ms.length
    · rw [if_pos hl, List.getElem?_eq_getElem hl]
      rw [List.getD_eq_getElem?_getD, List.getElem?_eq_getElem hl] at hm
      simp only [Option.map_some, hm]; rfl
    · rw [if_neg hl, List.getElem?_eq_none (by omega)]
  · rw [if_neg h]
end Go.Clt
end
section
set_option linter.unusedVariables false
set_option linter.unusedSimpArgs false
set_option maxRecDepth 4000
namespace Go.Clt
set_option maxHeartbeats 4000000
open Go Go.RowKit Go.Proofs
theorem foldl_take' {α β : Type} (f : β → α → β) (b : β) (l : List α) (d : α) (k : Nat) (h : k < l.length) : (l.take (k + 1)).foldl f b = f ((l.take k).foldl f b) (l.getD k d) := by
  rw [List.take_succ_eq_append_getElem h, List.foldl_append]
  simp [List.getD_eq_getElem?_getD, List.getElem?_eq_getElem h]
theorem StOk.chg0 {w w' : World} {s : St} {m : StM} (h : StOk w s m) (k : Chg [] w w') : StOk w' s m := h.chg k (by simp)
theorem explore_c (F : Nat → Prop) (p pa pb : Nat) (E : DE) (Ab : Option Addr) (cb bm : Nat) (w0 w : World) (hq : E.q.S.length ≤ 10) (hbud : E.budget ≤ 1000000) (hby : ∀ b ∈ E.bytes, b < 256) (hbl : E.bytes.length ≤ 256)
    (hC : Chg [] w0 w) (hlo : w0.heap.size ≤ bm) (hD : DOk F w p pa pb E ⟨[], [], false⟩ Ab cb none 0 bm []) :
    Calls P 43 #[.pointer (some ⟨p, 0, none⟩)] w (Ret fun u w' => Chg [] w0 w' ∧ ∃ Al cl ms n, DOk F w' p pa pb E (exploreP E) Ab cb Al cl bm ms ∧ DInv E (exploreP E) n 0 ∧ ((exploreP E).full = false → (exploreP E).l.length ≤ n)) := by
  have hbp := hD.bp
  have hF := hD.hF
  have hB0 := hD.blk
  have hA := hD.aut
  obtain ⟨pw, As, cs, bf, bl, Aw, cw, gs, hAm⟩ := hA
  have hBa := hAm.blk
  have hWei := hAm.wei
  have hDl := hD.blk.lt
  try have hlB0 := hB0.lt
  try have hlBa := hBa.lt
  refine enter Tryz.func43 rfl rfl ?_
  refine EW.seq ?_
  refine EW.reg ?_
  refine EP.o rfl (Does.move rfl) ?_
  refine EP.o rfl (Does.move rfl) ?_
  refine EP.o rfl (Does.nilCheck rfl) ?_
  refine EP.o rfl (Does.fieldAddr fl86_0 rfl) ?_
  refine EP.o rfl (Does.loadB o22 rfl (Keeps.now _) (by assumption) (by rfl)) ?_
  refine EP.o rfl (Does.nilCheck rfl) ?_
  refine EP.o rfl (Does.fieldAddr fl120_0 rfl) ?_
  refine EP.o rfl (Does.loadB o115 rfl (Keeps.now _) (by assumption) (by rfl)) ?_
  refine EP.call2 rfl (Enters.fn fb77 rfl) (void_c F pw E.k E.q _ hWei) ?_
  rintro _ w1 ⟨rfl, hx1⟩
  have hz1 := hx1.size
  replace hC := hC.step0 hx1
  replace hD := hD.chg0 hx1
  replace hB0 := hB0.chg0 hx1
  replace hBa := hBa.chg0 hx1
  replace hWei := hWei.chg0 hx1
  refine EP.o rfl (Does.cmp rfl rfl rfl) ?_
  refine EP.o rfl (Does.buildSL zr91 pl91 rfl (by rfl)) ?_
  refine EP.new2 rfl (News.box rfl rfl) ?_
  intro b2 w2 hb2 hs2 hx2 hB2
  have hz2 := hx2.size
  replace hC := hC.step0 hx2
  replace hD := hD.chg0 hx2
  replace hB0 := hB0.chg0 hx2
  replace hBa := hBa.chg0 hx2
  replace hWei := hWei.chg0 hx2
  have hs0 : StOk w2 (st0 E) ⟨b2, none, 0, none, 0⟩ := ⟨by assumption, Own.nil _ _ _ _, Own.nil _ _ _ _, by simp [blkOf]⟩
  refine EP.call2 rfl (Enters.fn fb76 rfl) (meet_c F p pa pb E _ Ab cb none 0 bm [] firstN (st0 E) ⟨b2, none, 0, none, 0⟩ _ hbud hD hs0 (fun x hx => by rcases fp_mem.1 hx with h | h | h; exact ⟨by show p < x; have : x = b2 := h; omega, fun ⟨i, hi, _⟩ => by simp at hi⟩; simp [blkOf] at h; simp [blkOf] at h)) ?_
  rintro v9 w3 ⟨hxm, Al, cl, ms, hD', rfl, hms, _⟩
  have hzm := hxm.size
  have hC := hC.step hxm (fun x hx => .inr (by simp [blkOf] at hx; omega))
  have hI0 := D0_inv E
  have hE0 := exploreP_eq E
  change DOk F _ p pa pb E (D0 E) Ab cb Al cl bm ms at hD'
  generalize exploreP E = R at *
  refine EP.nil ?_
  refine EW.seq ?_
  refine EW.reg ?_
  refine EP.o rfl (Does.assign rfl) ?_
  refine EP.nil ?_
  refine EW.block ?_
  refine EW.loop (σ := Nat × Nat × DS × Option Addr × Nat × List StM) (fun (g, n, D, Al, cl, ms) => [(0, .pointer (some ⟨p, 0, none⟩)), (2, .int .i64 n)]) (fun (g, n, D, Al, cl, ms) wr => Chg [] w0 wr ∧ DOk F wr p pa pb E D Ab cb Al cl bm ms ∧ DInv E D n 0 ∧ R = exploreL E g n D ∧ n ≤ D.l.length ∧ E.budget < n + g) (fun (g, n, D, Al, cl, ms) wr => g) (E.budget + 1, 0, D0 E, Al, cl, ms) ⟨rfl, rfl, trivial⟩ ?_ ?_
  · exact ⟨hC, hD', hI0, hE0, Nat.zero_le _, by show _ < 0 + _; omega⟩
  rintro ⟨g, n, D, Al, cl, ms⟩ w9 ⟨hC, hD, hI, hR, hnl, hg⟩
  have hB0 := hD.blk
  have hlb := hD.lb
  have hpw9 := hB0.lt
  try have hzw := hC.size
  try have hlB0 := hB0.lt
  refine EW.seq ?_
  refine EW.seq ?_
  refine EW.reg ?_
  refine EP.o rfl (Does.move rfl) ?_
  refine EP.o rfl (Does.move rfl) ?_
  refine EP.o rfl (Does.nilCheck rfl) ?_
  refine EP.o rfl (Does.fieldAddr fl86_3 rfl) ?_
  refine EP.o rfl (Does.loadB o84 rfl (Keeps.now _) (by assumption) (by rfl)) ?_
  refine EP.o rfl (Does.lenL Tryz.underlying84 rfl) ?_
  refine EP.o rfl (Does.cmp rfl rfl rfl) ?_
  refine EP.o rfl (Does.move rfl) ?_
  refine EP.bsplit (d := 29) rfl (fun h1 => ?_) (fun h1 => ?_)
  · try simp at h1
    refine EP.ung rfl rfl rfl ?_
    refine EP.o rfl (Does.move rfl) ?_
    refine EP.ung rfl rfl rfl ?_
    refine EP.o rfl (Does.nilCheck rfl) ?_
    refine EP.ung rfl rfl rfl ?_
    refine EP.o rfl (Does.fieldAddr fl86_6 rfl) ?_
    refine EP.ung rfl rfl rfl ?_
    refine EP.o rfl (Does.loadB o4 rfl (Keeps.now _) (by assumption) (by rfl)) ?_
    refine EP.ung rfl rfl rfl ?_
    refine EP.o rfl (Does.not rfl) ?_
    refine EP.o rfl (Does.pickT rfl rfl) ?_
    refine EP.nil ?_
    refine EW.cond rfl (fun h2 => ?_) (fun h2 => ?_)
    · try simp at h2
      obtain ⟨g, rfl⟩ : ∃ g', g = g' + 1 := ⟨g - 1, by omega⟩
      have hn : n < D.l.length := by omega
      have hRs : R = exploreL E g (n + 1) (exploreIn E n D) := by rw [hR]; show (if n < D.l.length ∧ D.full = false then _ else _) = _; rw [if_pos ⟨hn, by simpa using h2⟩]
      refine EW.skip ?_
      refine EW.seq ?_
      refine EW.block ?_
      refine EW.seq ?_
      refine EW.reg ?_
      refine EP.o rfl (Does.move rfl) ?_
      refine EP.o rfl (Does.nilCheck rfl) ?_
      refine EP.o rfl (Does.fieldAddr fl86_2 rfl) ?_
      refine EP.o rfl (Does.loadB o44 rfl (Keeps.now _) (by assumption) (by rfl)) ?_
      refine EP.o rfl (Does.lenL Tryz.underlying44 rfl) ?_
      refine EP.o rfl (Does.move rfl) ?_
      refine EP.nil ?_
      refine EW.block ?_
      refine EW.loop (σ := Nat × DS × Option Addr × Nat × List StM) (fun (j, D1, Al, cl, ms) => [(0, .pointer (some ⟨p, 0, none⟩)), (2, .int .i64 n), (41, .slice Ab E.bytes.length cb), (42, .int .i64 (E.bytes.length : Nat)), (43, .int .i64 j)]) (fun (j, D1, Al, cl, ms) wr => Chg [] w0 wr ∧ DOk F wr p pa pb E D1 Ab cb Al cl bm ms ∧ DInv E D1 n j ∧ D1 = (E.bytes.take j).foldl (explore1 E n) D ∧ n < D1.l.length ∧ j ≤ E.bytes.length) (fun (j, D1, Al, cl, ms) wr => E.bytes.length - j) (0, D, Al, cl, ms) ⟨rfl, rfl, rfl, rfl, rfl, trivial⟩ ?_ ?_
      · exact ⟨hC, hD, hI, rfl, hn, Nat.zero_le _⟩
      rintro ⟨j, D1, Al, cl, ms⟩ w8 ⟨hC, hD, hI, hD1, hn1, hj⟩
      try have hzw := hC.size
      refine EW.seq ?_
      refine EW.reg ?_
      refine EP.o rfl (Does.cmp rfl rfl rfl) ?_
      refine EP.nil ?_
      refine EW.seq ?_
      refine EW.cond rfl (fun h3 => ?_) (fun h3 => ?_)
      · try simp at h3
        have hjn : j < E.bytes.length := by omega
        have hb := hby _ (getD_mem E.bytes 0 j hjn)
        have hOy := hD.ob
        have hAy : ∃ g off, Ab = some ⟨g, off, none⟩ := by obtain ⟨g, off, h, _⟩ := (hOy.rd (F := fun _ => True) (fun _ _ _ => trivial)).at_ (by omega); exact ⟨g, off, h⟩
        obtain ⟨gy, oy, rfl⟩ := hAy
        refine EW.skip ?_
        refine EW.seq ?_
        refine EW.block ?_
        refine EW.seq ?_
        refine EW.reg ?_
        refine EP.o rfl (Does.indexAddr1 sl44 rfl rfl (by omega) (by omega)) ?_
        refine EP.o rfl (Does.load1 o5 rfl (Keeps.now _) ((hOy.rd (F := fun _ => True) (fun _ _ _ => trivial)).one (bys_get E.bytes j hjn)).2) ?_
        generalize hbb : E.bytes.getD j 0 = b at *
        have hlb1 := hD.lb
        have hws := hI.wl n hn1
        have hpl := hI.pl n hn1
        have hfresh : ∀ x, inSts ms x → x < w8.heap.size := fun x hx => hD.sts.lt hx
        have hpw8 := hD.blk.lt
        refine EP.o rfl (Does.assign rfl) ?_
        refine EP.nil ?_
        refine EW.seq ?_
        refine EW.reg ?_
        refine EP.o rfl (Does.move rfl) ?_
        refine EP.o rfl (Does.move rfl) ?_
        refine EP.o rfl (Does.move rfl) ?_
        refine EP.call2 rfl (Enters.fn fb78 rfl) (behind_c F p pa pb E D1 _ cb Al cl bm ms n b _ (by omega) hn1 (by omega) hb hD (hI.pv n hn1) (by omega)) ?_
        rintro v9 w4 ⟨hx4, A1, c1, rfl, hO1⟩
        have hz4 := hx4.size
        replace hC := hC.step0 hx4
        replace hD := hD.chg0 hx4
        have hbh := behindP_lt E D1.l n b
        have hA1 : ∀ x ∈ blkOf A1, w8.heap.size ≤ x := fun x hx => (hO1.blk x hx).1
        have hB0 := hD.blk
        have hk := hD.sts.ok n hn1
        have hBn := hk.blk
        have hml := hD.sts.len
        have hrl := hD.ol.rd (F := fun _ => True) (fun _ _ _ => trivial)
        have hAl : ∃ g off, Al = some ⟨g, off, none⟩ := by obtain ⟨g, off, h, _⟩ := hrl.at_ (by omega); exact ⟨g, off, h⟩
        obtain ⟨gl, ol, rfl⟩ := hAl
        have hcell := (hrl.one (ptrsV_get ms n (by omega))).2
        have haut := hD.aut
        have hws1 := wordB_size (D1.l.getD n default).word
        have hws2 : (wordB [b]).size = 1 := wordB_size [b]
        try have hlB0 := hB0.lt
        try have hlBn := hBn.lt
        refine EP.o rfl (Does.assign rfl) ?_
        refine EP.nil ?_
        refine EW.cut (fun e9 wr => ∃ bn, Sub [(0, .pointer (some ⟨p, 0, none⟩)), (2, .int .i64 n), (41, .slice (some ⟨gy, oy, none⟩) E.bytes.length cb), (42, .int .i64 (E.bytes.length : Nat)), (43, .int .i64 j), (5, .slice A1 (behindP E D1.l n b).length c1), (6, .pointer (some ⟨bn, 0, none⟩))] e9 ∧ Chg [] w0 wr ∧ DOk F wr p pa pb E D1 (some ⟨gy, oy, none⟩) cb (some ⟨gl, ol, none⟩) cl bm ms ∧ Own wr w8.heap.size 3 1 A1 (behindP E D1.l n b).length c1 (nats (behindP E D1.l n b)) ∧ Blk wr bn (stC (newSt E D1.l n b) ⟨bn, A1, c1, none, 0⟩) 91 ∧ w8.heap.size ≤ bn) ?_ ?_
        · refine EW.drwT (S := []) 23 (.two [(0, 0), (0, 1), (0, 2), (0, 3), (0, 4), (0, 5), (0, 6), (0, 7), (0, 8), (0, 9), (0, 10), (0, 11), (0, 15), (0, 16), (0, 17), (0, 18), (0, 19)] 12 (.two [] 13 (.seg [(0, 14), (1, 20), (0, 21), (1, 22), (2, 23)]) 20 (.seg [(1, 13), (0, 14), (0, 21), (1, 22), (2, 23)])) 20 (.seg [(1, 12), (1, 13), (0, 14), (0, 21), (1, 22), (2, 23)])) mo (by kernel_rfl) ?_
          simp only [ET]
          intro w5 hx5 hh5
          have hz5 := hx5.size
          replace hC := hC.step0 hx5
          replace hD := hD.chg0 hx5
          replace hO1 := hO1.chg0 hx5
          replace hB0 := hB0.chg0 hx5
          replace hBn := hBn.chg0 hx5
          replace haut := haut.chg0 hx5
          have hCS5 := Chg.refl ([]) w5
          refine EP.f rfl (Does.move rfl) ?_
          refine EP.f rfl (Does.move rfl) ?_
          refine EP.f rfl (Does.nilCheck rfl) ?_
          refine EP.f rfl (Does.fieldAddr fl86_3 rfl) ?_
          refine EP.f rfl (Does.loadBc o84 rfl (by assumption) (by simp; done) (by rfl)) ?_
          refine EP.f rfl (Does.move rfl) ?_
          refine EP.f rfl (Does.indexAddr1 sl84 rfl rfl (by omega) (by omega)) ?_
          refine EP.f rfl (Does.load1c o92 rfl (show World.cell? _ _ = _ from (Chg.cell (by assumption) (by simp) hcell)) (by simp; done)) ?_
          refine EP.f rfl (Does.nilCheck rfl) ?_
          refine EP.f rfl (Does.fieldAddr fl91_1 rfl) ?_
          refine EP.f rfl (Does.loadBc o9 rfl (by assumption) (by simp; done) (by rfl)) ?_
          refine EP.f rfl (Does.move rfl) ?_
          refine EP.f rfl (Does.move rfl) ?_
          refine EP.f rfl (Does.nilCheck rfl) ?_
          refine EP.f rfl (Does.fieldAddr fl86_0 rfl) ?_
          refine EP.f rfl (Does.loadBc o22 rfl (by assumption) (by simp; done) (by rfl)) ?_
          refine EP.f rfl (Does.move rfl) ?_
          refine EP.nil ?_
          refine ⟨?_, ?_⟩
          · refine EP.new1 rfl (News.buildL sl44 Tryz.underlying44 zr5 rfl rfl rfl (by rfl)) ?_
            intro b6 w6 hb6 hs6 hx6 hB6
            have hz6 := hx6.size
            replace hC := hC.step0 hx6
            replace hD := hD.chg0 hx6
            replace hO1 := hO1.chg0 hx6
            replace hB0 := hB0.chg0 hx6
            replace hBn := hBn.chg0 hx6
            replace haut := haut.chg0 hx6
            replace hCS5 := hCS5.step0 hx6
            refine ⟨hCS5, ?_⟩
            refine EP.nil ?_
            refine EP.nil ?_
            refine ⟨?_, ?_⟩
            · refine EP.o1 rfl (Does.toStr (l := [b]) (F := fun _ => True) rfl rfl (by intro x hx; simp at hx; omega) (Blk.rd (by assumption) rfl trivial)) (by assumption) ?_
              refine EP.nil ?_
              refine EP.f rfl ((Does.addS rfl rfl (by omega)).to (congrArg Value.string (wordB_append (D1.l.getD n default).word [b]))) ?_
              refine EP.call1 rfl (Enters.fn fb79 rfl) (ends_c F (fun x => x < w8.heap.size ∨ w8.heap.size ≤ x ∧ x < (World.heap _).size) pa E.k E.q (behindP E D1.l n b) A1 c1 _ (by omega) (by omega) haut (fun x h => by have := hF x h; omega) (hO1.rd (fun x h1 h2 => Or.inr ⟨h1, h2⟩)) (fun x h => by omega)) ?_
              rintro _ w7 ⟨rfl, hx7⟩
              have hz7 := hx7.size
              replace hC := hC.step0 hx7
              replace hD := hD.chg0 hx7
              replace hO1 := hO1.chg0 hx7
              replace hB0 := hB0.chg0 hx7
              replace hBn := hBn.chg0 hx7
              replace haut := haut.chg0 hx7
              replace hCS5 := hCS5.step0 hx7
              replace hB6 := hB6.chg0 hx7
              refine ⟨hCS5, ?_⟩
              refine EP.f rfl (Does.buildSL zr91 pl91 rfl (by rfl)) ?_
              refine EP.new1 rfl (News.box rfl rfl) ?_
              intro b8 w8 hb8 hs8 hx8 hB8
              have hz8 := hx8.size
              replace hC := hC.step0 hx8
              replace hD := hD.chg0 hx8
              replace hO1 := hO1.chg0 hx8
              replace hB0 := hB0.chg0 hx8
              replace hBn := hBn.chg0 hx8
              replace haut := haut.chg0 hx8
              replace hCS5 := hCS5.step0 hx8
              replace hB6 := hB6.chg0 hx8
              refine ⟨hCS5, ?_⟩
              refine EP.o rfl (Does.assign rfl) ?_
              refine EP.nil ?_
              exact ⟨b8, ⟨rfl, rfl, rfl, rfl, rfl, rfl, rfl, trivial⟩, hC, hD, hO1, hB8, by omega⟩
            · refine EP.call1 rfl (Enters.fn fb79 rfl) (ends_c F (fun x => x < w8.heap.size ∨ w8.heap.size ≤ x ∧ x < (World.heap _).size) pa E.k E.q (behindP E D1.l n b) A1 c1 _ (by omega) (by omega) haut (fun x h => by have := hF x h; omega) (hO1.rd (fun x h1 h2 => Or.inr ⟨h1, h2⟩)) (fun x h => by omega)) ?_
              rintro _ w9 ⟨rfl, hx9⟩
              have hz9 := hx9.size
              replace hC := hC.step0 hx9
              replace hD := hD.chg0 hx9
              replace hO1 := hO1.chg0 hx9
              replace hB0 := hB0.chg0 hx9
              replace hBn := hBn.chg0 hx9
              replace haut := haut.chg0 hx9
              replace hCS5 := hCS5.step0 hx9
              replace hB6 := hB6.chg0 hx9
              refine ⟨hCS5, ?_⟩
              refine EP.nil ?_
              refine EP.o1 rfl (Does.toStr (l := [b]) (F := fun _ => True) rfl rfl (by intro x hx; simp at hx; omega) (Blk.rd (by assumption) rfl trivial)) (by assumption) ?_
              refine EP.f rfl ((Does.addS rfl rfl (by omega)).to (congrArg Value.string (wordB_append (D1.l.getD n default).word [b]))) ?_
              refine EP.f rfl (Does.buildSL zr91 pl91 rfl (by rfl)) ?_
              refine EP.new1 rfl (News.box rfl rfl) ?_
              intro b10 w10 hb10 hs10 hx10 hB10
              have hz10 := hx10.size
              replace hC := hC.step0 hx10
              replace hD := hD.chg0 hx10
              replace hO1 := hO1.chg0 hx10
              replace hB0 := hB0.chg0 hx10
              replace hBn := hBn.chg0 hx10
              replace haut := haut.chg0 hx10
              replace hCS5 := hCS5.step0 hx10
              replace hB6 := hB6.chg0 hx10
              refine ⟨hCS5, ?_⟩
              refine EP.o rfl (Does.assign rfl) ?_
              refine EP.nil ?_
              exact ⟨b10, ⟨rfl, rfl, rfl, rfl, rfl, rfl, rfl, trivial⟩, hC, hD, hO1, hB10, by omega⟩
          · refine EP.call1 rfl (Enters.fn fb79 rfl) (ends_c F (fun x => x < w8.heap.size ∨ w8.heap.size ≤ x ∧ x < (World.heap _).size) pa E.k E.q (behindP E D1.l n b) A1 c1 _ (by omega) (by omega) haut (fun x h => by have := hF x h; omega) (hO1.rd (fun x h1 h2 => Or.inr ⟨h1, h2⟩)) (fun x h => by omega)) ?_
            rintro _ w11 ⟨rfl, hx11⟩
            have hz11 := hx11.size
            replace hC := hC.step0 hx11
            replace hD := hD.chg0 hx11
            replace hO1 := hO1.chg0 hx11
            replace hB0 := hB0.chg0 hx11
            replace hBn := hBn.chg0 hx11
            replace haut := haut.chg0 hx11
            replace hCS5 := hCS5.step0 hx11
            refine ⟨hCS5, ?_⟩
            refine EP.nil ?_
            refine EP.new1 rfl (News.buildL sl44 Tryz.underlying44 zr5 rfl rfl rfl (by rfl)) ?_
            intro b12 w12 hb12 hs12 hx12 hB12
            have hz12 := hx12.size
            replace hC := hC.step0 hx12
            replace hD := hD.chg0 hx12
            replace hO1 := hO1.chg0 hx12
            replace hB0 := hB0.chg0 hx12
            replace hBn := hBn.chg0 hx12
            replace haut := haut.chg0 hx12
            replace hCS5 := hCS5.step0 hx12
            refine ⟨hCS5, ?_⟩
            refine EP.o1 rfl (Does.toStr (l := [b]) (F := fun _ => True) rfl rfl (by intro x hx; simp at hx; omega) (Blk.rd (by assumption) rfl trivial)) (by assumption) ?_
            refine EP.f rfl ((Does.addS rfl rfl (by omega)).to (congrArg Value.string (wordB_append (D1.l.getD n default).word [b]))) ?_
            refine EP.f rfl (Does.buildSL zr91 pl91 rfl (by rfl)) ?_
            refine EP.new1 rfl (News.box rfl rfl) ?_
            intro b13 w13 hb13 hs13 hx13 hB13
            have hz13 := hx13.size
            replace hC := hC.step0 hx13
            replace hD := hD.chg0 hx13
            replace hO1 := hO1.chg0 hx13
            replace hB0 := hB0.chg0 hx13
            replace hBn := hBn.chg0 hx13
            replace haut := haut.chg0 hx13
            replace hCS5 := hCS5.step0 hx13
            replace hB12 := hB12.chg0 hx13
            refine ⟨hCS5, ?_⟩
            refine EP.o rfl (Does.assign rfl) ?_
            refine EP.nil ?_
            exact ⟨b13, ⟨rfl, rfl, rfl, rfl, rfl, rfl, rfl, trivial⟩, hC, hD, hO1, hB13, by omega⟩
        rintro e9 w7 ⟨bn, hs9, hC, hD, hO1, hBs, hbns⟩
        refine EW.sub _ hs9 ?_
        clear hs9 e9
        try have hzw := hC.size
        have hbnl := hBs.lt
        have hA1b := hO1.blk
        have hS : StOk w7 (newSt E D1.l n b) ⟨bn, A1, c1, none, 0⟩ := ⟨hBs, hO1.lower (Nat.zero_le _), Own.nil _ _ _ _, by simp [blkOf]⟩
        refine EW.seq ?_
        refine EW.reg ?_
        refine EP.o rfl (Does.move rfl) ?_
        refine EP.call2 rfl (Enters.fn fb80 rfl) (text_c (behindP E D1.l n b) (fun x hx => by have := hbh.1 x hx; omega) (by omega) (fun x => w8.heap.size ≤ x ∧ x < w7.heap.size) A1 c1 _ (fun x h => h.2) (hO1.rd (fun x h1 h2 => ⟨h1, h2⟩))) ?_
        rintro _ w14 ⟨rfl, hx14⟩
        have hz14 := hx14.size
        replace hC := hC.step0 hx14
        replace hD := hD.chg0 hx14
        replace hO1 := hO1.chg0 hx14
        replace hS := hS.chg0 hx14
        have hfp : ∀ x ∈ (StM.mk bn A1 c1 none 0).fp, p < x ∧ ¬ inSts ms x := fun x hx => by
          have hx8 : w8.heap.size ≤ x := by
            rcases fp_mem.1 hx with h | h | h
            · have : x = bn := h; omega
            · exact hA1 x h
            · simp [blkOf] at h
          exact ⟨by omega, fun hin => by have := hfresh x hin; omega⟩
        refine EP.o rfl (Does.assign rfl) ?_
        refine EP.nil ?_
        refine EW.seq ?_
        refine EW.reg ?_
        refine EP.o rfl (Does.move rfl) ?_
        refine EP.o rfl (Does.move rfl) ?_
        refine EP.o rfl (Does.move rfl) ?_
        refine EP.call2 rfl (Enters.fn fb76 rfl) (meet_c F p pa pb E D1 _ cb _ cl bm ms (textL (behindP E D1.l n b)) (newSt E D1.l n b) ⟨bn, A1, c1, none, 0⟩ _ hbud hD hS hfp) ?_
        rintro v9 w15 ⟨hxm, Al2, cl2, ms2, hD2, rfl, hms2, hS2⟩
        have hzm := hxm.size
        have hOlb := hD.ol.blk
        have hC := hC.step hxm (fun x hx => .inr (by
          rcases List.mem_cons.1 hx with rfl | hx
          · omega
          · rcases List.mem_cons.1 hx with rfl | hx
            · omega
            · have := hOlb x hx; omega))
        have hmi := meet_inv hI (textL (behindP E D1.l n b)) (newSt E D1.l n b) rfl hbh.1 hbh.2 (by rw [newSt_word, List.length_append, List.length_singleton]; omega) (by
          rw [newSt_word]
          intro x hx
          rcases List.mem_append.1 hx with hx | hx
          · exact hI.wb n hn1 x hx
          · simp at hx; omega) hn1
        have hD1' : D1 = (E.bytes.take j).foldl (explore1 E n) D := hD1
        have hstep : (E.bytes.take (j + 1)).foldl (explore1 E n) D = addNext (meetP E D1 (textL (behindP E D1.l n b)) (newSt E D1.l n b)).2 n (meetP E D1 (textL (behindP E D1.l n b)) (newSt E D1.l n b)).1 := by
          rw [foldl_take' _ _ _ 0 _ hjn, ← hD1', hbb]; rfl
        generalize meetP E D1 (textL (behindP E D1.l n b)) (newSt E D1.l n b) = mr at *
        obtain ⟨v, D2⟩ := mr
        simp only at hD2 hmi hstep
        obtain ⟨hI2, hv2, hge2, hsame⟩ := hmi
        have hn2 : n < D2.l.length := by omega
        obtain ⟨hB0, hA, hIb, hF2, hOy, hO, hM, hbp2, hT, hslo, hmv, hlb2⟩ := hD2
        have hk := hT.ok n hn2
        have hml2 := hT.len
        generalize hm2 : ms2.getD n default = m2 at *
        have hBn := hk.blk
        have hOn := hk.on
        have hnx := hI2.nx n hn2
        rw [if_neg (by omega), if_pos rfl] at hnx
        have hfl : ∀ x ∈ m2.fp, p < x := fun x hx => hslo x (inSts.of hT hn2 (by rw [hm2]; exact hx))
        have hrl2 := hO.rd (F := fun _ => True) (fun _ _ _ => trivial)
        have hAl2 : ∃ g off, Al2 = some ⟨g, off, none⟩ := by obtain ⟨g, off, h, _⟩ := hrl2.at_ (by omega); exact ⟨g, off, h⟩
        obtain ⟨gl2, ol2, rfl⟩ := hAl2
        have hcell2 := (hrl2.one (ptrsV_get ms2 n (by omega))).2
        rw [hm2] at hcell2
        have hOb : ∀ x ∈ blkOf m2.A2, p < x ∧ x < (World.heap w15).size := fun x hx => ⟨hfl x (fp_mem.2 (.inr (.inr hx))), hk.lt x (fp_mem.2 (.inr (.inr hx)))⟩
        have hps : p < m2.p := hfl _ (fp_mem.2 (.inl rfl))
        have hOl := hk.rl
        have ho1 := hOy.apart hOn (by decide)
        have ho2 := hO.apart hOn (by decide)
        have ho3 := hOy.offBlk hBn (by decide)
        have ho4 := hO.offBlk hBn (by decide)
        have ho5 := hOl.offBlk hBn (by decide)
        have hs2 := hk.s2
        have hon := hOn.offBlk hBn (by decide)
        have hpn : m2.p ∉ blkOf m2.A2 := fun h => hon _ h (by simp)
        have hlw := hk.lt
        have hCn := Chg.refl m2.fp w15
        have hcn1 : ∀ x ∈ blkOf m2.A2, x ∈ m2.fp ∨ (World.heap w15).size ≤ x := fun x hx => .inl (fp_mem.2 (.inr (.inr hx)))
        have hcn2 : ∀ x ∈ [m2.p], x ∈ m2.fp ∨ (World.heap w15).size ≤ x := fun x hx => .inl (fp_mem.2 (.inl (List.mem_singleton.1 hx)))
        try have hlB0 := hB0.lt
        try have hlBn := hBn.lt
        have hgl2 : gl2 ∉ blkOf m2.A2 := ho2 gl2 (by simp [blkOf])
        refine EP.o rfl (Does.assign rfl) ?_
        refine EP.nil ?_
        refine EW.drw' (S := blkOf m2.A2) 20 [(0, 0), (0, 1), (0, 2), (0, 3), (0, 4), (0, 5), (0, 6), (0, 7), (0, 8), (0, 9), (0, 10), (0, 11), (0, 12), (0, 13), (0, 14), (0, 15), (0, 16), (0, 17), (1, 18), (1, 19), (2, 20), (2, 21), (2, 22)] mo (by kernel_rfl) ?_
        intro w16 hx16 hh16
        have hz16 := hx16.size
        replace hC := hC.step0 hx16
        replace hB0 := hB0.chg0 hx16
        replace hA := hA.chg0 hx16
        replace hIb := hIb.chg0 hx16
        replace hOy := hOy.chg0 hx16
        replace hO := hO.chg0 hx16
        replace hM := hM.chg0 hx16
        replace hBn := hBn.chg0 hx16
        replace hOn := hOn.chg0 hx16
        replace hOl := hOl.chg0 hx16
        replace hCn := hCn.step0 hx16
        have hCS16 := Chg.refl (blkOf m2.A2) w16
        have hcell3 := ((hO.rd (F := fun _ => True) (fun _ _ _ => trivial)).one (ptrsV_get ms2 n (by omega))).2
        rw [hm2] at hcell3
        refine EP.f rfl (Does.move rfl) ?_
        refine EP.f rfl (Does.nilCheck rfl) ?_
        refine EP.f rfl (Does.fieldAddr fl86_3 rfl) ?_
        refine EP.f rfl (Does.loadBc o84 rfl (by assumption) (by intro h; have := hOb _ h; omega) (by rfl)) ?_
        refine EP.f rfl (Does.move rfl) ?_
        refine EP.f rfl (Does.indexAddr1 sl84 rfl rfl (by omega) (by omega)) ?_
        refine EP.f rfl (Does.load1c o92 rfl hcell3 (by assumption)) ?_
        refine EP.f rfl (Does.move rfl) ?_
        refine EP.f rfl (Does.nilCheck rfl) ?_
        refine EP.f rfl (Does.fieldAddr fl86_3 rfl) ?_
        refine EP.f rfl (Does.loadBc o84 rfl (by assumption) (by intro h; have := hOb _ h; omega) (by rfl)) ?_
        refine EP.f rfl (Does.move rfl) ?_
        refine EP.f rfl (Does.indexAddr1 sl84 rfl rfl (by omega) (by omega)) ?_
        refine EP.f rfl (Does.load1c o92 rfl hcell3 (by assumption)) ?_
        refine EP.f rfl (Does.nilCheck rfl) ?_
        refine EP.f rfl (Does.fieldAddr fl91_2 rfl) ?_
        refine EP.f rfl (Does.loadBc o24 rfl (by assumption) (by assumption) (by rfl)) ?_
        refine EP.f rfl (Does.move rfl) ?_
        refine EP.new1 rfl (News.buildL sl24 Tryz.underlying24 zr3 rfl rfl rfl (by rfl)) ?_
        intro b17 w17 hb17 hs17 hx17 hB17
        have hz17 := hx17.size
        replace hC := hC.step0 hx17
        replace hB0 := hB0.chg0 hx17
        replace hA := hA.chg0 hx17
        replace hIb := hIb.chg0 hx17
        replace hOy := hOy.chg0 hx17
        replace hO := hO.chg0 hx17
        replace hM := hM.chg0 hx17
        replace hBn := hBn.chg0 hx17
        replace hOn := hOn.chg0 hx17
        replace hOl := hOl.chg0 hx17
        replace hCn := hCn.step0 hx17
        replace hCS16 := hCS16.step0 hx17
        refine ⟨hCS16, ?_⟩
        refine EP.append1 rfl el24 rfl rfl hOn (Blk.rd (F := fun _ => True) (by assumption) rfl trivial) (by rfl) (by omega) (by omega) ?_
        intro A' c' w18 hO18 hx18 hA'
        have hz18 := hx18.size
        replace hC := hC.step hx18 (by intro x h; have := hOb x h; exact .inr (by omega))
        replace hB0 := hB0.chg hx18 (by intro h; have := hOb _ h; omega)
        replace hA := hA.chg hx18 (by intro x hx hf; have := hOb x hx; have := hF x hf; omega)
        replace hIb := hIb.chg hx18 (by intro x hx hf; have := hOb x hx; have := hF x hf; omega)
        replace hOy := (by exact hOy.keep hx18 (by assumption))
        replace hO := (by exact hO.keep hx18 (by assumption))
        replace hM := hM.chg hx18 (by intro h; have := hOb _ h; omega)
        replace hBn := hBn.chg hx18 (by assumption)
        replace hOl := (by exact hOl.keep hx18 (by assumption))
        replace hCn := hCn.step hx18 (by assumption)
        replace hCS16 := hCS16.step hx18 (by exact fun x h => .inl h)
        replace hB17 := hB17.chg hx18 (by intro h; have := hOb _ h; omega)
        clear hOn; have hOn := hO18; clear hO18
        refine ⟨hCS16, ?_⟩
        have hon2 := hOn.offBlk hBn (by decide)
        refine EP.o rfl (Does.nilCheck rfl) ?_
        refine EP.o rfl (Does.fieldAddr fl91_2 rfl) ?_
        refine EP.put2 (Puts.blk sz24 rfl rfl (by assumption) rfl rfl rfl rfl (by rfl)) ?_
        intro w19 hs19 hx19 hB19
        have hz19 := hx19.size
        replace hC := hC.step hx19 (by simp; omega)
        replace hB0 := hB0.chg hx19 (by simp; omega)
        replace hA := hA.chg hx19 (by intro b hb hFb; have := hF _ hFb; simp at hb; omega)
        replace hIb := hIb.chg hx19 (by intro b hb hFb; have := hF _ hFb; simp at hb; omega)
        replace hOy := (by exact hOy.keep hx19 (by assumption))
        replace hO := (by exact hO.keep hx19 (by assumption))
        replace hM := hM.chg hx19 (by simp; omega)
        replace hOn := (by exact hOn.keep hx19 (by assumption))
        replace hOl := (by exact hOl.keep hx19 (by assumption))
        replace hCn := hCn.step hx19 (by assumption)
        replace hB17 := hB17.chg hx19 (by simp; omega)
        clear hBn; have hBn := hB19; clear hB19
        refine EP.nil ?_
        refine EW.reg ?_
        refine EP.o rfl (Does.addi rfl rfl (by omega)) ?_
        refine EP.o rfl (Does.move rfl) ?_
        refine EP.nil ?_
        refine ⟨(j + 1, addNext D2 n v, some ⟨gl2, ol2, none⟩, cl2, ms2.set n ⟨m2.p, m2.A, m2.c, A', c'⟩), ⟨rfl, rfl, rfl, rfl, rfl, trivial⟩, ?_, ?_⟩
        have hal : (addNext D2 n v).l.length = D2.l.length := by simp [addNext]
        have hmn : ms2.getD n default = m2 := hm2
        have hfpn : ∀ x ∈ (StM.mk m2.p m2.A m2.c A' c').fp, x ∈ (ms2.getD n default).fp ∨ p < x ∧ (∀ y, inSts ms2 y → y < x) := fun x hx => by
          rw [hmn]
          rcases fp_mem.1 hx with h | h | h
          · exact .inl (fp_mem.2 (.inl h))
          · exact .inl (fp_mem.2 (.inr (.inl h)))
          · rcases hA' with h2 | ⟨b', h2, h3⟩
            · left; simp only [h2] at h; exact fp_mem.2 (.inr (.inr h))
            · right
              simp only [h2, blkOf, List.mem_singleton] at h
              subst h
              exact ⟨by omega, fun y hy => by have := hT.lt hy; omega⟩
        have hsts := hT.upd (s' := { D2.l.getD n default with next := (D2.l.getD n default).next ++ [v] }) (m' := ⟨m2.p, m2.A, m2.c, A', c'⟩) hn2 hCn (fun x h => by rw [hmn]; exact h) ⟨by
            simp only [stC, List.length_append, List.length_singleton]; exact hBn, hOl, by
            simp only [List.length_append, List.length_singleton]; rw [nats_snoc]; exact hOn, fun x hx hx2 => by
            simp only at hx2
            rcases hA' with h2 | ⟨b', h2, h3⟩
            · rw [h2] at hx2; exact hs2 x hx hx2
            · rw [h2] at hx2
              simp [blkOf] at hx2
              have := hk.lt x (fp_mem.2 (.inr (.inl hx)))
              omega⟩ (fun x hx => by
            rcases fp_mem.1 hx with h | h | h
            · rw [hmn]; exact .inl (fp_mem.2 (.inl h))
            · rw [hmn]; exact .inl (fp_mem.2 (.inr (.inl h)))
            · rcases hA' with h2 | ⟨b', h2, h3⟩
              · rw [hmn]; left; simp only [h2] at h; exact fp_mem.2 (.inr (.inr h))
              · right
                simp only [h2, blkOf, List.mem_singleton] at h
                omega)
        refine ⟨hC, ⟨?_, hA, hIb, hF2, hOy, ?_, hM, hbp2, hsts, ?_, by rw [hal]; exact hmv, by rw [hal]; exact hlb2⟩, addNext_inv hI2 hn2 hv2, hstep.symm, by rw [hal]; exact hn2, hjn⟩
        · unfold dC
          rw [hal]
          exact hB0
        · rw [ptrsV_set _ _ _ (by rw [hmn]), hal]
          exact hO
        · rintro x ⟨i, hi, hx⟩
          rw [List.length_set] at hi
          rw [getD_set _ _ _ _ _ (by omega)] at hx
          by_cases hin : i = n
          · rw [if_pos hin] at hx
            rcases hfpn x hx with h | h
            · exact hslo x ⟨n, by omega, h⟩
            · exact h.1
          · rw [if_neg hin] at hx
            exact hslo x ⟨i, hi, hx⟩
        show E.bytes.length - (j + 1) < E.bytes.length - j
        omega
      · try simp at h3
        have hjj : j = E.bytes.length := by omega
        subst hjj
        rw [List.take_of_length_le (Nat.le_refl _)] at hD1
        refine EW.exit (brk_here ?_)
        refine EW.reg ?_
        refine EP.o rfl (Does.move rfl) ?_
        refine EP.o rfl (Does.addi rfl rfl (by omega)) ?_
        refine EP.o rfl (Does.assign rfl) ?_
        refine EP.nil ?_
        refine ⟨(g, n + 1, D1, Al, cl, ms), ⟨rfl, rfl, trivial⟩, ?_, ?_⟩
        exact ⟨hC, hD, hI.go, by rw [hRs, hD1]; rfl, hn1, by omega⟩
        exact Nat.lt_succ_self g
    · try simp at h2
      have hRD : R = D := by
        rw [hR]
        cases g with
        | zero => rfl
        | succ g => show (if n < D.l.length ∧ D.full = false then _ else _) = _; rw [if_neg (by rintro ⟨_, h⟩; rw [h] at h2; simp at h2)]
      refine EW.exit (brk_here ?_)
      refine Fin.none rfl ?_
      rw [hRD]
      exact ⟨hC, Al, cl, ms, n, hD, hI, fun h => by rw [h] at h2; simp at h2⟩
  · try simp at h1
    have hRD : R = D := by
      rw [hR]
      cases g with
      | zero => rfl
      | succ g => show (if n < D.l.length ∧ D.full = false then _ else _) = _; rw [if_neg (by rintro ⟨h, _⟩; omega)]
    refine EP.skp rfl rfl rfl rfl rfl (fun h => by cases h) ?_
    refine EP.skp rfl rfl rfl rfl rfl (fun h => by cases h) ?_
    refine EP.skp rfl rfl rfl rfl rfl (fun h => by cases h) ?_
    refine EP.skp rfl rfl rfl rfl rfl (fun h => by cases h) ?_
    refine EP.skp rfl rfl rfl rfl rfl (fun h => by cases h) ?_
    refine EP.o rfl (Does.pickF rfl rfl) ?_
    refine EP.nil ?_
    refine EW.condF rfl ?_
    refine EW.exit (brk_here ?_)
    refine Fin.none rfl ?_
    rw [hRD]
    exact ⟨hC, Al, cl, ms, n, hD, hI, fun h => by omega⟩
end Go.Clt
end
section
set_option linter.unusedVariables false
set_option linter.unusedSimpArgs false
set_option maxRecDepth 4000
namespace Go.Clt
open Go Go.RowKit Go.Proofs
theorem DOk.setSt {F : Nat → Prop} {w w' : World} {p pa pb : Nat} {E : DE} {D : DS} {Ab : Option Addr} {cb : Nat} {Al : Option Addr} {cl bm : Nat} {ms : List StM} {n : Nat} {s' : St} (h : DOk F w p pa pb E D Ab cb Al cl bm ms) (hn : n < D.l.length)
    (k : Chg [(ms.getD n default).p] w w') (hb : Blk w' (ms.getD n default).p (stC s' (ms.getD n default)) 91) (h1 : s'.l = (D.l.getD n default).l) (h2 : s'.next = (D.l.getD n default).next) :
    DOk F w' p pa pb E { D with l := D.l.set n s' } Ab cb Al cl bm ms := by
  have hk := h.sts.ok n hn
  have hml := h.sts.len
  have hin : inSts ms (ms.getD n default).p := inSts.of h.sts hn (fp_mem.2 (.inl rfl))
  have hpp := h.slo _ hin
  have hbp := h.bp
  have hset : ms.set n (ms.getD n default) = ms := by
    apply List.ext_getElem?
    intro i
    rw [List.getElem?_set]
    by_cases hi : n = i
    · subst hi
      rw [if_pos rfl, if_pos (by omega), List.getD_eq_getElem?_getD, List.getElem?_eq_getElem (by omega)]; rfl
    · rw [if_neg hi]
  have hs := h.sts.upd (s' := s') (m' := ms.getD n default) hn k (fun x hx => by rw [List.mem_singleton.1 hx]; exact fp_mem.2 (.inl rfl))
    ⟨hb, by rw [h1]; exact hk.rl.keep k (hk.rl.offBlk hk.blk (by decide)), by rw [h2]; exact hk.on.keep k (hk.on.offBlk hk.blk (by decide)), hk.s2⟩ (fun x hx => .inl hx)
  rw [hset] at hs
  refine ⟨?_, h.aut.chg k (fun b hb hF => by have := h.hF b hF; rw [List.mem_singleton.1 hb] at this; omega), h.bl.chg k (fun b hb hF => by have := h.hF b hF; rw [List.mem_singleton.1 hb] at this; omega), h.hF, h.ob.keep k (h.ob.offBlk hk.blk (by decide)), ?_, h.mp.chg k (by rw [List.mem_singleton]; omega), h.bp, hs, h.slo, ?_, ?_⟩
  · have := h.blk.chg k (by rw [List.mem_singleton]; omega)
    unfold dC at this ⊢
    simpa using this
  · have := h.ol.keep k (h.ol.offBlk hk.blk (by decide))
    simpa using this
  · simpa using h.mv
  · simpa using h.lb
def deadU (l : List St) (i : Nat) : List St := l.mapIdx fun j s => if j < i then { s with dead := !s.meant } else s
theorem deadU_len (l : List St) (i : Nat) : (deadU l i).length = l.length := by simp [deadU]
theorem deadU_zero (l : List St) : deadU l 0 = l := by apply List.ext_getElem?; intro j; simp [deadU]
theorem deadU_full (l : List St) : deadU l l.length = dead0 l := by
  apply List.ext_getElem?
  intro j
  simp only [deadU, dead0, List.getElem?_mapIdx, List.getElem?_map]
  cases h : l[j]? with
  | none => rfl
  | some s =>
    have := (List.getElem?_eq_some_iff.1 h).1
    simp [this]
theorem deadU_get (l : List St) (i : Nat) (h : i < l.length) : (deadU l i).getD i default = l.getD i default := by
  simp [deadU, List.getD_eq_getElem?_getD, h]
theorem deadU_succ (l : List St) (i : Nat) (h : i < l.length) : deadU l (i + 1) = (deadU l i).set i { l.getD i default with dead := !(l.getD i default).meant } := by
  apply List.ext_getElem?
  intro j
  simp only [deadU, List.getElem?_mapIdx, List.getElem?_set, List.length_mapIdx]
  by_cases hij : i = j
  · subst hij
    rw [if_pos rfl, if_pos h, List.getElem?_eq_getElem h]
    simp [List.getD_eq_getElem?_getD, h]
  · rw [if_neg hij]
    cases hl : l[j]? with
    | none => rfl
    | some s =>
      simp only [Option.map_some]
      by_cases h1 : j < i
      · rw [if_pos (by omega), if_pos h1]
      · rw [if_neg (by omega), if_neg h1]
theorem markU_succ (l : List St) (k : Nat) : markU l (k + 1) = markStep (markU l k) k := by
  unfold markU; rw [List.range_succ, List.foldl_append]; rfl
theorem markStep_len (x : List St × Bool) (i : Nat) : (markStep x i).1.length = x.1.length := by unfold markStep; split <;> simp
theorem markU_len (l : List St) : ∀ k, (markU l k).1.length = l.length
  | 0 => rfl
  | k + 1 => by rw [markU_succ, markStep_len, markU_len l k]
def sameSt (a b : St) : Prop := a.l = b.l ∧ a.word = b.word ∧ a.next = b.next ∧ a.meant = b.meant
theorem markStep_same (x : List St × Bool) (i : Nat) (j : Nat) : sameSt ((markStep x i).1.getD j default) (x.1.getD j default) := by
  unfold markStep
  split
  · by_cases hi : i < x.1.length
    · rw [getD_set _ _ _ _ _ hi]
      by_cases h : j = i
      · subst h; rw [if_pos rfl]; exact ⟨rfl, rfl, rfl, rfl⟩
      · rw [if_neg h]; exact ⟨rfl, rfl, rfl, rfl⟩
    · rw [List.set_eq_of_length_le (by omega)]; exact ⟨rfl, rfl, rfl, rfl⟩
  · exact ⟨rfl, rfl, rfl, rfl⟩
theorem sameSt.trans {a b c : St} (h : sameSt a b) (k : sameSt b c) : sameSt a c := ⟨h.1.trans k.1, h.2.1.trans k.2.1, h.2.2.1.trans k.2.2.1, h.2.2.2.trans k.2.2.2⟩
theorem markU_same (l : List St) (j : Nat) : ∀ k, sameSt ((markU l k).1.getD j default) (l.getD j default)
  | 0 => ⟨rfl, rfl, rfl, rfl⟩
  | k + 1 => by rw [markU_succ]; exact (markStep_same _ _ _).trans (markU_same l j k)
def deadC (l : List St) : Nat := (l.filter fun s => s.dead).length
theorem deadC_set (l : List St) (i : Nat) (h : i < l.length) (hd : (l.getD i default).dead = true) : deadC (l.set i { l.getD i default with dead := false }) + 1 = deadC l := by
  unfold deadC
  have hl : l = l.take i ++ l.getD i default :: l.drop (i + 1) := by
    rw [List.getD_eq_getElem?_getD, List.getElem?_eq_getElem h]; simp
  have hs : l.set i { l.getD i default with dead := false } = l.take i ++ { l.getD i default with dead := false } :: l.drop (i + 1) := by
    rw [List.set_eq_take_append_cons_drop, if_pos h]
  rw [hs]
  conv => rhs; rw [hl]
  simp only [List.filter_append, List.filter_cons, hd, if_true, Bool.false_eq_true, if_false, List.length_append, List.length_cons]
  omega
theorem markU_dead (l : List St) : ∀ k, k ≤ l.length → deadC (markU l k).1 ≤ deadC l ∧ ((markU l k).2 = true → deadC (markU l k).1 < deadC l)
  | 0, _ => ⟨Nat.le_refl _, fun h => by cases h⟩
  | k + 1, hk => by
    obtain ⟨h1, h2⟩ := markU_dead l k (by omega)
    have hlen := markU_len l k
    rw [markU_succ]
    unfold markStep
    split
    · rename_i hc
      simp only [Bool.and_eq_true] at hc
      have := deadC_set (markU l k).1 k (by omega) hc.1
      refine ⟨?_, fun _ => ?_⟩ <;> (dsimp only at this ⊢; omega)
    · exact ⟨h1, h2⟩
theorem deadC_le (l : List St) : deadC l ≤ l.length := List.length_filter_le _ _
theorem markL_len : ∀ (f : Nat) (l : List St), (markL f l).length = l.length
  | 0, l => rfl
  | f + 1, l => by
    unfold markL
    split
    · rw [markL_len f, markU_len]
    · rw [markU_len]
theorem markL_same : ∀ (f : Nat) (l : List St) (j : Nat), sameSt ((markL f l).getD j default) (l.getD j default)
  | 0, l, j => ⟨rfl, rfl, rfl, rfl⟩
  | f + 1, l, j => by
    unfold markL
    split
    · exact (markL_same f _ j).trans (markU_same l j _)
    · exact markU_same l j _
theorem dead0_len (l : List St) : (dead0 l).length = l.length := by simp [dead0]
theorem markP_len (l : List St) : (markP l).length = l.length := by unfold markP; rw [markL_len, dead0_len]
theorem dead0_same (l : List St) (j : Nat) (h : j < l.length) : sameSt ((dead0 l).getD j default) (l.getD j default) := by
  simp [dead0, List.getD_eq_getElem?_getD, h, sameSt]
theorem markP_same (l : List St) (j : Nat) (h : j < l.length) : sameSt ((markP l).getD j default) (l.getD j default) := by
  unfold markP; exact (markL_same _ _ _).trans (dead0_same l j h)
end Go.Clt
end
section
set_option linter.unusedVariables false
set_option linter.unusedSimpArgs false
set_option maxRecDepth 4000
namespace Go.Clt
set_option maxHeartbeats 4000000
open Go Go.RowKit Go.Proofs
theorem mark1_c (F : Nat → Prop) (p pa pb : Nat) (E : DE) (D : DS) (Ab : Option Addr) (cb : Nat) (Al : Option Addr) (cl bm : Nat) (ms : List StM) (j b1 : Nat) (w : World) (hD : DOk F w p pa pb E D Ab cb Al cl bm ms) (hB1 : Blk w b1 [.pointer (some ⟨p, 0, none⟩)] 31) (hj : j < D.l.length) (hb : E.budget ≤ 1000000) :
    Calls P 82 #[.int .i64 (j : Nat), .pointer (some ⟨b1, 0, none⟩)] w (Ret fun u w' => u = .bool (!(D.l.getD j default).dead) ∧ Chg [] w w') := by
  have hC := Chg.refl [] w
  have hlb := hD.lb
  obtain ⟨hB0, hA, hI, hF, hOy, hO, hM, hbp, hT, hslo, hmv, hlb⟩ := hD
  have hml := hT.len
  have hrl := hO.rd (F := fun _ => True) (fun _ _ _ => trivial)
  have hAl : ∃ g off, Al = some ⟨g, off, none⟩ := by obtain ⟨g, off, h, _⟩ := hrl.at_ (by omega); exact ⟨g, off, h⟩
  obtain ⟨g, off, rfl⟩ := hAl
  have hcell := (hrl.one (ptrsV_get ms j (by omega))).2
  have hBn := (hT.ok j hj).blk
  try have hlB0 := hB0.lt
  try have hlB1 := hB1.lt
  try have hlBn := hBn.lt
  refine enter Tryz.func82 rfl rfl ?_
  refine EW.seq ?_
  refine EW.reg ?_
  refine EP.o rfl (Does.assign rfl) ?_
  refine EP.nil ?_
  refine EW.seq ?_
  refine EW.reg ?_
  refine EP.o rfl (Does.loadB o31 rfl (Keeps.now _) (by assumption) (by rfl)) ?_
  refine EP.o rfl (Does.nilCheck rfl) ?_
  refine EP.o rfl (Does.fieldAddr fl86_3 rfl) ?_
  refine EP.o rfl (Does.loadB o84 rfl (Keeps.now _) (by assumption) (by rfl)) ?_
  refine EP.o rfl (Does.move rfl) ?_
  refine EP.o rfl (Does.indexAddr1 sl84 rfl rfl (by omega) (by omega)) ?_
  refine EP.o rfl (Does.load1 o92 rfl (Keeps.now _) hcell) ?_
  refine EP.o rfl (Does.nilCheck rfl) ?_
  refine EP.o rfl (Does.fieldAddr fl91_4 rfl) ?_
  refine EP.o rfl (Does.loadB o4 rfl (Keeps.now _) (by assumption) (by rfl)) ?_
  refine EP.o rfl (Does.not rfl) ?_
  refine EP.o rfl (Does.assign rfl) ?_
  refine EP.nil ?_
  refine EW.ret ?_
  refine Fin.one rfl rfl ?_
  exact ⟨rfl, hC⟩
theorem mark_c (F : Nat → Prop) (p pa pb : Nat) (E : DE) (D : DS) (Ab : Option Addr) (cb : Nat) (Al : Option Addr) (cl bm : Nat) (ms : List StM) (w0 w : World) (hC : Chg [] w0 w) (hlo : w0.heap.size ≤ bm) (hD : DOk F w p pa pb E D Ab cb Al cl bm ms) (hb : E.budget ≤ 1000000)
    (hnv : ∀ i, i < D.l.length → ∀ v ∈ (D.l.getD i default).next, v < D.l.length) (hnl : ∀ i, i < D.l.length → (D.l.getD i default).next.length ≤ 256) :
    Calls P 44 #[.pointer (some ⟨p, 0, none⟩)] w (Ret fun u w' => Chg [] w0 w' ∧ DOk F w' p pa pb E { D with l := markP D.l } Ab cb Al cl bm ms) := by
  have hbp := hD.bp
  have hlb := hD.lb
  have hpw := hD.blk.lt
  have hml := hD.sts.len
  have hslo := hD.slo
  have hsin : ∀ i, i < D.l.length → inSts ms (ms.getD i default).p := fun i hi => inSts.of hD.sts hi (fp_mem.2 (.inl rfl))
  have hAl : 0 < D.l.length → ∃ g off, Al = some ⟨g, off, none⟩ := fun h => by
    obtain ⟨g, off, h, _⟩ := (hD.ol.rd (F := fun _ => True) (fun _ _ _ => trivial)).at_ h
    exact ⟨g, off, h⟩
  refine enter Tryz.func44 rfl rfl ?_
  refine EW.seq ?_
  refine EW.reg ?_
  refine EP.new2 rfl (News.box rfl rfl) ?_
  intro b1 w1 hb1 hs1 hx1 hB1
  have hz1 := hx1.size
  replace hC := hC.step0 hx1
  replace hD := hD.chg0 hx1
  refine EP.nil ?_
  refine EW.seq ?_
  refine EW.seq ?_
  refine EW.reg ?_
  refine EP.o rfl (Does.loadB o31 rfl (Keeps.now _) (by assumption) (by rfl)) ?_
  have hB0 := hD.blk
  try have hlB0 := hB0.lt
  refine EP.o rfl (Does.nilCheck rfl) ?_
  refine EP.o rfl (Does.fieldAddr fl86_3 rfl) ?_
  refine EP.o rfl (Does.loadB o84 rfl (Keeps.now _) (by assumption) (by rfl)) ?_
  refine EP.o rfl (Does.lenL Tryz.underlying84 rfl) ?_
  refine EP.o rfl (Does.move rfl) ?_
  refine EP.nil ?_
  refine EW.block ?_
  refine EW.loop (σ := Nat) (fun i => [(1, .pointer (some ⟨b1, 0, none⟩)), (10, .slice Al D.l.length cl), (11, .int .i64 (D.l.length : Nat)), (12, .int .i64 i)]) (fun i wr => Chg [] w0 wr ∧ DOk F wr p pa pb E { D with l := deadU D.l i } Ab cb Al cl bm ms ∧ Blk wr b1 [.pointer (some ⟨p, 0, none⟩)] 31 ∧ i ≤ D.l.length) (fun i wr => D.l.length - i) 0 ⟨rfl, rfl, rfl, rfl, trivial⟩ ?_ ?_
  · exact ⟨hC, by rw [deadU_zero]; exact hD, hB1, Nat.zero_le _⟩
  rintro i w9 ⟨hC, hD, hB1, hi⟩
  have hdl := deadU_len D.l i
  try have hzw := hC.size
  try have hlB1 := hB1.lt
  refine EW.seq ?_
  refine EW.reg ?_
  refine EP.o rfl (Does.cmp rfl rfl rfl) ?_
  refine EP.nil ?_
  refine EW.seq ?_
  refine EW.cond rfl (fun h1 => ?_) (fun h1 => ?_)
  · try simp at h1
    have hin : i < D.l.length := by omega
    obtain ⟨g, off, rfl⟩ := hAl (by omega)
    have hcell := ((hD.ol.rd (F := fun _ => True) (fun _ _ _ => trivial)).one (ptrsV_get ms i (by omega))).2
    have hBn := (hD.sts.ok i (by rw [hdl]; exact hin)).blk
    simp only at hBn
    rw [deadU_get D.l i hin] at hBn
    obtain ⟨pm, hpm⟩ : ∃ x, x = (ms.getD i default).p := ⟨_, rfl⟩
    rw [← hpm] at hBn hcell
    have hlB := hBn.lt
    have hpn := hslo _ (hsin i hin)
    rw [← hpm] at hpn
    have hnb := hB1.ne hBn (by decide)
    try have hlBn := hBn.lt
    refine EW.skip ?_
    refine EW.seq ?_
    refine EW.block ?_
    refine EW.seq ?_
    refine EW.reg ?_
    refine EP.o rfl (Does.indexAddr1 sl84 rfl rfl (by omega) (by omega)) ?_
    refine EP.o rfl (Does.load1 o92 rfl (Keeps.now _) hcell) ?_
    refine EP.o rfl (Does.assign rfl) ?_
    refine EP.nil ?_
    refine EW.reg ?_
    have hdd := deadU_succ D.l i hin
    refine EP.o rfl (Does.move rfl) ?_
    refine EP.o rfl (Does.move rfl) ?_
    refine EP.o rfl (Does.nilCheck rfl) ?_
    refine EP.o rfl (Does.fieldAddr fl91_3 rfl) ?_
    refine EP.o rfl (Does.loadB o4 rfl (Keeps.now _) (by assumption) (by rfl)) ?_
    refine EP.o rfl (Does.not rfl) ?_
    refine EP.o rfl (Does.nilCheck rfl) ?_
    refine EP.o rfl (Does.fieldAddr fl91_4 rfl) ?_
    refine EP.put2 (Puts.blk sz4 rfl rfl (by assumption) rfl rfl rfl rfl (by rfl)) ?_
    intro w2 hs2 hx2 hB2
    have hz2 := hx2.size
    replace hC := hC.step hx2 (by simp; omega)
    replace hB1 := hB1.chg hx2 (by simp; omega)
    clear hBn; have hBn := hB2; clear hB2
    refine EP.nil ?_
    refine EW.reg ?_
    refine EP.o rfl (Does.addi rfl rfl (by omega)) ?_
    refine EP.o rfl (Does.move rfl) ?_
    refine EP.nil ?_
    refine ⟨i + 1, ⟨rfl, rfl, rfl, rfl, trivial⟩, ?_, ?_⟩
    have hD2 := hD.setSt (n := i) (s' := { D.l.getD i default with dead := !(D.l.getD i default).meant }) (by rw [hdl]; exact hin) (by rw [← hpm]; exact hx2) (by rw [← hpm]; exact hBn) (by simp only; rw [deadU_get D.l i hin]) (by simp only; rw [deadU_get D.l i hin])
    exact ⟨hC, by rw [hdd]; exact hD2, hB1, hin⟩
    omega
  · try simp at h1
    have hii : i = D.l.length := by omega
    subst hii
    rw [deadU_full] at hD
    have hR : markP D.l = markL (D.l.length + 1) (dead0 D.l) := rfl
    generalize markP D.l = R at *
    refine EW.exit (brk_here ?_)
    refine EW.seq ?_
    refine EW.reg ?_
    refine EP.o rfl (Does.assign rfl) ?_
    refine EP.nil ?_
    refine EW.block ?_
    refine EW.loop (σ := Nat × List St × Bool) (fun (g, l, more) => [(1, .pointer (some ⟨b1, 0, none⟩)), (4, .bool more)]) (fun (g, l, more) wr => Chg [] w0 wr ∧ DOk F wr p pa pb E { D with l := l } Ab cb Al cl bm ms ∧ Blk wr b1 [.pointer (some ⟨p, 0, none⟩)] 31 ∧ l.length = D.l.length ∧ (∀ j, j < D.l.length → sameSt (l.getD j default) (D.l.getD j default)) ∧ (more = true → markL g l = R ∧ deadC l < g) ∧ (more = false → l = R)) (fun (g, l, more) wr => (if more then g + 1 else 0)) (D.l.length + 1, dead0 D.l, true) ⟨rfl, rfl, trivial⟩ ?_ ?_
    · exact ⟨hC, hD, hB1, dead0_len _, fun j hj => dead0_same _ j hj, fun _ => ⟨hR.symm, by have := deadC_le (dead0 D.l); rw [dead0_len] at this; omega⟩, fun h => by cases h⟩
    rintro ⟨g, l, more⟩ w8 ⟨hC, hD, hB1, hll, hsm, hmt, hmf⟩
    have hB0 := hD.blk
    try have hzw := hC.size
    try have hlB1 := hB1.lt
    try have hlB0 := hB0.lt
    refine EW.seq ?_
    refine EW.seq ?_
    refine EW.reg ?_
    refine EP.o rfl (Does.move rfl) ?_
    refine EP.nil ?_
    refine EW.cond rfl (fun hmore => ?_) (fun hmore => ?_)
    · try simp at hmore
      obtain ⟨hmR, hdc⟩ := hmt hmore
      obtain ⟨g, rfl⟩ : ∃ g', g = g' + 1 := ⟨g - 1, by omega⟩
      refine EW.skip ?_
      refine EW.block ?_
      refine EW.seq ?_
      refine EW.reg ?_
      refine EP.o rfl (Does.assign rfl) ?_
      refine EP.nil ?_
      refine EW.seq ?_
      refine EW.reg ?_
      refine EP.o rfl (Does.loadB o31 rfl (Keeps.now _) (by assumption) (by rfl)) ?_
      refine EP.o rfl (Does.nilCheck rfl) ?_
      refine EP.o rfl (Does.fieldAddr fl86_3 rfl) ?_
      refine EP.o rfl (Does.loadB o84 rfl (Keeps.now _) (by assumption) (by rfl)) ?_
      refine EP.o rfl (Does.lenL Tryz.underlying84 rfl) ?_
      refine EP.o rfl (Does.move rfl) ?_
      refine EP.nil ?_
      refine EW.block ?_
      refine EW.loop (σ := Nat) (fun i => [(1, .pointer (some ⟨b1, 0, none⟩)), (4, .bool (markU l i).2), (29, .slice Al D.l.length cl), (30, .int .i64 (D.l.length : Nat)), (31, .int .i64 i)]) (fun i wr => Chg [] w0 wr ∧ DOk F wr p pa pb E { D with l := (markU l i).1 } Ab cb Al cl bm ms ∧ Blk wr b1 [.pointer (some ⟨p, 0, none⟩)] 31 ∧ i ≤ D.l.length) (fun i wr => D.l.length - i) 0 ⟨rfl, rfl, (lk_val rfl (by simp only [hll])), (lk_int rfl (by simp only [hll])), rfl, trivial⟩ ?_ ?_
      · exact ⟨hC, hD, hB1, Nat.zero_le _⟩
      rintro i w7 ⟨hC, hD, hB1, hi⟩
      have hul := markU_len l i
      have hus := markU_succ l i
      have hsame : ∀ j, j < D.l.length → sameSt ((markU l i).1.getD j default) (D.l.getD j default) := fun j hj => (markU_same l j i).trans (hsm j hj)
      generalize hx : markU l i = x at *
      obtain ⟨y, mo⟩ := x
      simp only at hD hul hsame
      try have hzw := hC.size
      try have hlB1 := hB1.lt
      refine EW.seq ?_
      refine EW.reg ?_
      refine EP.o rfl (Does.cmp rfl rfl rfl) ?_
      refine EP.nil ?_
      refine EW.seq ?_
      refine EW.cond rfl (fun h3 => ?_) (fun h3 => ?_)
      · try simp at h3
        have hin : i < D.l.length := by omega
        have hiy : i < y.length := by omega
        obtain ⟨g0, off, rfl⟩ := hAl (by omega)
        have hcell := ((hD.ol.rd (F := fun _ => True) (fun _ _ _ => trivial)).one (ptrsV_get ms i (by omega))).2
        have hk := hD.sts.ok i hiy
        have hBn := hk.blk
        simp only at hBn
        obtain ⟨pm, hpm⟩ : ∃ x, x = (ms.getD i default).p := ⟨_, rfl⟩
        rw [← hpm] at hBn hcell
        have hlB := hBn.lt
        have hpn := hslo _ (hsin i hin)
        rw [← hpm] at hpn
        have hnb := hB1.ne hBn (by decide)
        have hsi := hsame i hin
        have hnx : (y.getD i default).next = (D.l.getD i default).next := hsi.2.2.1
        have hnl' := hnl i hin
        have hnv2 : ∀ k, k < (y.getD i default).next.length → (y.getD i default).next.getD k 0 < y.length := by
          rw [hnx]
          intro k hk
          have := hnv i hin _ (getD_mem _ 0 k hk)
          omega
        try have hlBn := hBn.lt
        refine EW.skip ?_
        refine EW.seq ?_
        refine EW.block ?_
        refine EW.seq ?_
        refine EW.reg ?_
        refine EP.o rfl (Does.indexAddr1 sl84 rfl rfl (by omega) (by omega)) ?_
        refine EP.o rfl (Does.load1 o92 rfl (Keeps.now _) hcell) ?_
        refine EP.o rfl (Does.assign rfl) ?_
        refine EP.nil ?_
        refine EW.seq ?_
        refine EW.reg ?_
        refine EP.o rfl (Does.move rfl) ?_
        refine EP.o rfl (Does.nilCheck rfl) ?_
        refine EP.o rfl (Does.fieldAddr fl91_4 rfl) ?_
        refine EP.o rfl (Does.loadB o4 rfl (Keeps.now _) (by assumption) (by rfl)) ?_
        refine EP.o rfl (Does.move rfl) ?_
        refine EP.bsplit (d := 39) rfl (fun h4 => ?_) (fun h4 => ?_)
        · try simp at h4
          have hrn := hk.on.rd (F := fun x => x < w7.heap.size) (fun x _ h => h)
          refine EP.ung rfl rfl rfl ?_
          refine EP.o rfl (Does.move rfl) ?_
          refine EP.ung rfl rfl rfl ?_
          refine EP.o rfl (Does.nilCheck rfl) ?_
          refine EP.ung rfl rfl rfl ?_
          refine EP.o rfl (Does.fieldAddr fl91_2 rfl) ?_
          refine EP.ung rfl rfl rfl ?_
          refine EP.o rfl (Does.loadB o24 rfl (Keeps.now _) (by assumption) (by rfl)) ?_
          refine EP.ung rfl rfl rfl ?_
          refine EP.o rfl (Does.makeFunc (fun a ha => map_args ha rfl) (fun a ha => map_args ha rfl)) ?_
          refine EP.ung rfl rfl rfl ?_
          refine EP.call2 rfl (Enters.fn fb81 rfl) (anyI_c 82 #[] #[.pointer (some ⟨b1, 0, none⟩)] fb82 (nats (y.getD i default).next) (fun k => !(y.getD ((y.getD i default).next.getD k 0) default).dead) (fun x => x < w7.heap.size) _ _ _ _ (by rw [hnx]; omega) (fun x h => h) hrn (fun k v w' hk' hv' hw' => by rw [nats_get _ k hk'] at hv'; cases hv'; exact mark1_c F p pa pb E { D with l := y } Ab cb _ cl bm ms _ b1 w' (hD.chg0 hw') (hB1.chg0 hw') (hnv2 k hk') hb)) ?_
          rintro _ w3 ⟨rfl, hxc⟩
          have hzc := hxc.size
          replace hC := hC.step0 hxc
          replace hB1 := hB1.chg0 hxc
          replace hBn := hBn.chg0 hxc
          have hD := hD.chg0 hxc
          have hun : (List.range (y.getD i default).next.length).any (fun k => !(y.getD ((y.getD i default).next.getD k 0) default).dead) = undead y (y.getD i default) := by
            unfold undead
            rw [Bool.eq_iff_iff, List.any_eq_true, List.any_eq_true]
            constructor
            · rintro ⟨k, hk1, hk2⟩
              exact ⟨_, getD_mem _ 0 k (List.mem_range.1 hk1), hk2⟩
            · rintro ⟨v, hv1, hv2⟩
              obtain ⟨k, hk1, rfl⟩ := List.mem_iff_getElem.1 hv1
              have he : (y.getD i default).next.getD k 0 = (y.getD i default).next[k] := by rw [List.getD_eq_getElem?_getD, List.getElem?_eq_getElem hk1]; rfl
              exact ⟨k, List.mem_range.2 hk1, by simp only [he]; exact hv2⟩
          refine EP.o rfl (Does.pickT rfl rfl) ?_
          refine EP.nil ?_
          refine EW.cond rfl (fun h5 => ?_) (fun h5 => ?_)
          · try simp at h5
            have hms : markStep (y, mo) i = (y.set i { y.getD i default with dead := false }, true) := by
              unfold markStep
              rw [if_pos (by simp only; rw [← hun]; rw [Bool.and_eq_true]; exact ⟨by simpa using h4, by simpa using h5⟩)]
            refine EW.reg ?_
            refine EP.o rfl (Does.move rfl) ?_
            refine EP.o rfl (Does.nilCheck rfl) ?_
            refine EP.o rfl (Does.fieldAddr fl91_4 rfl) ?_
            refine EP.put2 (Puts.blk sz4 rfl rfl (by assumption) rfl rfl rfl rfl (by rfl)) ?_
            intro w4 hs4 hx4 hB4
            have hz4 := hx4.size
            replace hC := hC.step hx4 (by simp; omega)
            replace hB1 := hB1.chg hx4 (by simp; omega)
            clear hBn; have hBn := hB4; clear hB4
            refine EP.o rfl (Does.assign rfl) ?_
            refine EP.nil ?_
            refine EW.reg ?_
            refine EP.o rfl (Does.addi rfl rfl (by omega)) ?_
            refine EP.o rfl (Does.move rfl) ?_
            refine EP.nil ?_
            refine ⟨i + 1, ⟨rfl, (lk_bool rfl (by rw [hus, hms])), rfl, rfl, rfl, trivial⟩, ?_, ?_⟩
            have hD2 := hD.setSt (n := i) (s' := { y.getD i default with dead := false }) hiy (by rw [← hpm]; exact (by assumption)) (by rw [← hpm]; exact hBn) rfl rfl
            exact ⟨hC, by rw [hus, hms]; exact hD2, hB1, hin⟩
            omega
          · try simp at h5
            have hms : markStep (y, mo) i = (y, mo) := by
              unfold markStep
              rw [if_neg (by simp only; rw [← hun]; rw [Bool.and_eq_true]; rintro ⟨_, h⟩; simp at h5 h; obtain ⟨k, hk1, hk2⟩ := h; have := h5 k hk1; rw [this] at hk2; cases hk2)]
            refine EW.skip ?_
            refine EW.reg ?_
            refine EP.o rfl (Does.addi rfl rfl (by omega)) ?_
            refine EP.o rfl (Does.move rfl) ?_
            refine EP.nil ?_
            refine ⟨i + 1, ⟨rfl, (lk_bool rfl (by rw [hus, hms])), rfl, rfl, rfl, trivial⟩, ?_, ?_⟩
            exact ⟨hC, by rw [hus, hms]; exact hD, hB1, hin⟩
            omega
        · try simp at h4
          have hms : markStep (y, mo) i = (y, mo) := by
            unfold markStep
            rw [if_neg (by simp only; rw [Bool.and_eq_true]; rintro ⟨h, _⟩; simp at h4 h; rw [h4] at h; cases h)]
          refine EP.skp rfl rfl rfl rfl rfl (fun h => by cases h) ?_
          refine EP.skp rfl rfl rfl rfl rfl (fun h => by cases h) ?_
          refine EP.skp rfl rfl rfl rfl rfl (fun h => by cases h) ?_
          refine EP.skp rfl rfl rfl rfl rfl (fun h => by cases h) ?_
          refine EP.skp rfl rfl rfl rfl rfl (fun h => by cases h) ?_
          refine EP.skp rfl rfl rfl rfl rfl (fun h => by cases h) ?_
          refine EP.o rfl (Does.pickF rfl rfl) ?_
          refine EP.nil ?_
          refine EW.condF rfl ?_
          refine EW.skip ?_
          refine EW.reg ?_
          refine EP.o rfl (Does.addi rfl rfl (by omega)) ?_
          refine EP.o rfl (Does.move rfl) ?_
          refine EP.nil ?_
          refine ⟨i + 1, ⟨rfl, (lk_bool rfl (by rw [hus, hms])), rfl, rfl, rfl, trivial⟩, ?_, ?_⟩
          exact ⟨hC, by rw [hus, hms]; exact hD, hB1, hin⟩
          omega
      · try simp at h3
        have hii : i = l.length := by omega
        subst hii
        have hmd := markU_dead l l.length (Nat.le_refl _)
        rw [hx] at hmd
        simp only at hmd
        have hRl : R = if mo then markL g y else y := by
          rw [← hmR]
          show (if (markU l l.length).2 then _ else _) = _
          rw [hx]
        refine EW.exit (brk_here ?_)
        refine ⟨(g, y, mo), ⟨rfl, rfl, trivial⟩, ?_, ?_⟩
        refine ⟨hC, hD, hB1, by rw [hul, hll], hsame, fun h => ⟨by rw [hRl, if_pos h], by have := hmd.2 h; omega⟩, fun h => by rw [hRl, if_neg (by rw [h]; simp)]⟩
        show (if mo then g + 1 else 0) < (if more then g + 1 + 1 else 0)
        rw [if_pos hmore]
        split <;> omega
    · try simp at hmore
      have hlR := hmf (by simpa using hmore)
      subst hlR
      refine EW.exit (brk_here ?_)
      refine Fin.none rfl ?_
      exact ⟨hC, hD⟩
end Go.Clt
end
section
set_option linter.unusedVariables false
set_option linter.unusedSimpArgs false
set_option maxRecDepth 4000
namespace Go.Clt
set_option maxHeartbeats 4000000
open Go Go.RowKit Go.Proofs
theorem ablocks_c (F : Nat → Prop) (pa : Nat) (k : Kn) (q : Wst) (w : World) (hn : q.S.length ≤ 1000000) (hW : IsAut F w pa k q) (hF : ∀ x, F x → x < w.heap.size) :
    Calls P 40 #[.pointer (some ⟨pa, 0, none⟩)] w (Ret fun u w' => Chg [] w w' ∧ ∃ p, u = .pointer (some ⟨p, 0, none⟩) ∧ IsBlk (FR w.heap.size w'.heap.size []) w' p (blocksF q.S).1 (blocksF q.S).2) := by
  have hC := Chg.refl [] w
  obtain ⟨pw, As, cs, bf, bl, A2, c2, gs, h⟩ := hW
  have hB0 := h.blk
  have hR := h.rs
  try have hlB0 := hB0.lt
  try have hlR := hR.lt
  refine enter Tryz.func40 rfl rfl ?_
  refine EW.seq ?_
  refine EW.reg ?_
  refine EP.o rfl (Does.assign rfl) ?_
  refine EP.nil ?_
  refine EW.seq ?_
  refine EW.seq ?_
  refine EW.reg ?_
  refine EP.o rfl (Does.move rfl) ?_
  refine EP.o rfl (Does.eqPtr Tryz.underlying22 rfl rfl) ?_
  refine EP.nil ?_
  refine EW.cond rfl (fun h0 => ?_) (fun h0 => ?_)
  · try simp at h0
    all_goals cases h0
  · try simp at h0
    refine EW.skip ?_
    refine EW.seq ?_
    refine EW.reg ?_
    refine EP.o rfl (Does.move rfl) ?_
    refine EP.o rfl (Does.nilCheck rfl) ?_
    refine EP.o rfl (Does.fieldAddr fl120_1 rfl) ?_
    refine EP.o rfl (Does.loadB o23 rfl (Keeps.now _) (by assumption) (by rfl)) ?_
    refine EP.call2 rfl (Enters.fn fb73 rfl) (bnew_c q.S F As cs _ hn hF hR) ?_
    rintro v9 w1 ⟨hx1, p, rfl, hI⟩
    have hz1 := hx1.size
    replace hC := hC.step0 hx1
    replace hB0 := hB0.chg0 hx1
    replace hR := hR.chg0 hx1
    refine EP.o rfl (Does.assign rfl) ?_
    refine EP.nil ?_
    refine EW.ret ?_
    refine Fin.one rfl rfl ?_
    exact ⟨hC, p, rfl, hI⟩
structure DGood (E : DE) (l : List St) : Prop where
  pos : 0 < l.length
  nx : ∀ i, i < l.length → (l.getD i default).next.length = E.nB
  nv : ∀ i, i < l.length → ∀ v ∈ (l.getD i default).next, v < l.length
  bl : E.bytes.length = E.nB
  nb : E.nB ≤ 256
  fv : ∀ b, b < 256 → E.f.getD b 0 < E.nB
  le : l.length ≤ 1000000
  by_ : ∀ b ∈ E.bytes, b < 256
structure DfaM (F : Nat → Prop) (w : World) (p : Nat) (E : DE) (l : List St) (pa pb : Nat) (Ab : Option Addr) (cb : Nat) (Al : Option Addr) (cl bm : Nat) (ms : List StM) : Prop where
  blk : Blk w p [.pointer (some ⟨pa, 0, none⟩), .pointer (some ⟨pb, 0, none⟩), .slice Ab E.bytes.length cb, .slice Al l.length cl, .map (some bm), .int .i64 E.budget, .bool false] 86
  fp : F p
  bl : IsBlk F w pb E.f E.nB
  rb : Rd F w 1 Ab E.bytes.length (bys E.bytes)
  rl : Rd F w 1 Al l.length (ptrsV ms)
  sts : StsOk w l ms
  fs : ∀ x, inSts ms x → F x
  good : DGood E l
def IsDfa (F : Nat → Prop) (w : World) (p : Nat) (E : DE) (l : List St) : Prop := ∃ pa pb Ab cb Al cl bm ms, DfaM F w p E l pa pb Ab cb Al cl bm ms
theorem IsDfa.chg {F : Nat → Prop} {w w' : World} {p : Nat} {E : DE} {l : List St} {S : List Nat} (h : IsDfa F w p E l) (c : Chg S w w') (hS : ∀ b ∈ S, ¬ F b) : IsDfa F w' p E l := by
  obtain ⟨pa, pb, Ab, cb, Al, cl, bm, ms, h⟩ := h
  exact ⟨pa, pb, Ab, cb, Al, cl, bm, ms, h.blk.chg c (fun hm => hS _ hm h.fp), h.fp, h.bl.chg c hS, h.rb.chg c hS, h.rl.chg c hS, h.sts.chg c (fun x hx hin => hS x hx (h.fs x hin)), h.fs, h.good⟩
theorem IsDfa.chg0 {F : Nat → Prop} {w w' : World} {p : Nat} {E : DE} {l : List St} (h : IsDfa F w p E l) (c : Chg [] w w') : IsDfa F w' p E l := h.chg c (by simp)
theorem IsDfa.mono {F F' : Nat → Prop} {w : World} {p : Nat} {E : DE} {l : List St} (h : IsDfa F w p E l) (hF : ∀ b, F b → b < w.heap.size → F' b) : IsDfa F' w p E l := by
  obtain ⟨pa, pb, Ab, cb, Al, cl, bm, ms, h⟩ := h
  exact ⟨pa, pb, Ab, cb, Al, cl, bm, ms, h.blk, hF _ h.fp h.blk.lt, h.bl.mono hF, h.rb.mono hF, h.rl.mono hF, h.sts, fun x hx => hF _ (h.fs x hx) (h.sts.lt hx), h.good⟩
theorem IsDfa.lt {F : Nat → Prop} {w : World} {p : Nat} {E : DE} {l : List St} (h : IsDfa F w p E l) : p < w.heap.size := by
  obtain ⟨pa, pb, Ab, cb, Al, cl, bm, ms, h⟩ := h; exact h.blk.lt
theorem IsDfa.good {F : Nat → Prop} {w : World} {p : Nat} {E : DE} {l : List St} (h : IsDfa F w p E l) : DGood E l := by
  obtain ⟨pa, pb, Ab, cb, Al, cl, bm, ms, h⟩ := h; exact h.good
theorem leastL_len (f : List Nat) (n : Nat) : (leastL f n).length = n := by simp [leastL]
theorem leastL_lt (f : List Nat) (n : Nat) : ∀ b ∈ leastL f n, b < 256 := by
  intro b hb
  obtain ⟨i, _, rfl⟩ := List.mem_map.1 hb
  exact firstS_lt _
theorem exploreL_pos (E : DE) : ∀ (f n : Nat) (D : DS), (exploreL E f n D).full = false → D.full = false
  | 0, n, D, h => h
  | f + 1, n, D, h => by
    unfold exploreL at h
    split at h
    · rename_i hc; exact hc.2
    · exact h
theorem leastL_take (f : List Nat) (n i : Nat) (h : i < n) : (leastL f n).take (i + 1) = (leastL f n).take i ++ [firstS (blockOf f 256 i)] := by
  have hl := leastL_len f n
  rw [List.take_add_one, List.getElem?_eq_getElem (by omega)]
  simp [leastL]
theorem meetP_len (E : DE) (D : DS) (name : List UInt8) (s : St) : D.l.length ≤ (meetP E D name s).2.l.length := by
  unfold meetP
  split
  · exact Nat.le_refl _
  · split
    · exact Nat.le_refl _
    · simp
theorem explore1_len (E : DE) (n : Nat) (D : DS) (b : Nat) : D.l.length ≤ (explore1 E n D b).l.length := by
  unfold explore1
  simp only [addNext, List.length_set]
  exact meetP_len _ _ _ _
theorem exploreIn_len (E : DE) (n : Nat) (l : List Nat) : ∀ D : DS, D.l.length ≤ (l.foldl (explore1 E n) D).l.length := by
  induction l with
  | nil => intro D; exact Nat.le_refl _
  | cons b r ih => intro D; exact Nat.le_trans (explore1_len E n D b) (ih _)
theorem exploreL_len (E : DE) : ∀ (f n : Nat) (D : DS), D.l.length ≤ (exploreL E f n D).l.length
  | 0, n, D => Nat.le_refl _
  | f + 1, n, D => by
    unfold exploreL
    split
    · exact Nat.le_trans (exploreIn_len E n E.bytes D) (exploreL_len E f (n + 1) _)
    · exact Nat.le_refl _
theorem exploreP_pos (E : DE) (h : (exploreP E).full = false) : 0 < (exploreP E).l.length := by
  rw [exploreP_eq] at h ⊢
  have h0 := exploreL_pos E _ _ _ h
  have h1 := exploreL_len E (E.budget + 1) 0 (D0 E)
  have h2 : 0 < (D0 E).l.length := by
    unfold D0 meetP at h0 ⊢
    simp only [mget_nil] at h0 ⊢
    split
    · rename_i hb; rw [if_pos hb] at h0; cases h0
    · simp
  omega
theorem dnew_c (F : Nat → Prop) (pa : Nat) (k : Kn) (q : Wst) (budget : Nat) (w : World) (hW : IsAut F w pa k q) (hFw : ∀ x, F x → x < w.heap.size) (hL : Laid w) (hq : q.S.length ≤ 10) (hbud : budget ≤ 1000000) :
    Calls P 13 #[.pointer (some ⟨pa, 0, none⟩), .int .i64 (budget : Nat)] w (Ret fun u w' => Chg [] w w' ∧ (dfaP k q budget = none → u = .tuple #[.pointer none, .int .i64 9]) ∧ (∀ l, dfaP k q budget = some l → ∃ p, u = .tuple #[.pointer (some ⟨p, 0, none⟩), .int .i64 0] ∧ IsDfa (fun x => F x ∨ w.heap.size ≤ x) w' p (dfaE k q budget) l)) := by
  have hC := Chg.refl [] w
  have hbok := blocksF_ok q.S
  have hLz := hL.sz
  try have hz4 := hL.sz
  refine enter Tryz.func13 rfl rfl ?_
  refine EW.seq ?_
  refine EW.reg ?_
  refine EP.o rfl (Does.assign rfl) ?_
  refine EP.o rfl (Does.assign rfl) ?_
  refine EP.nil ?_
  refine EW.seq ?_
  refine EW.seq ?_
  refine EW.reg ?_
  refine EP.o rfl (Does.move rfl) ?_
  refine EP.o rfl (Does.eqPtr Tryz.underlying22 rfl rfl) ?_
  refine EP.o rfl (Does.move rfl) ?_
  refine EP.bsplit (d := 12) rfl (fun h0 => ?_) (fun h0 => ?_)
  · try simp at h0
    all_goals cases h0
  · try simp at h0
    refine EP.ung rfl rfl rfl ?_
    refine EP.o rfl (Does.move rfl) ?_
    refine EP.ung rfl rfl rfl ?_
    refine EP.o rfl (Does.cmp rfl rfl rfl) ?_
    refine EP.o rfl (Does.pickF rfl rfl) ?_
    refine EP.nil ?_
    refine EW.cond rfl (fun h1 => ?_) (fun h1 => ?_)
    · try simp at h1
      all_goals omega
    · try simp at h1
      refine EW.skip ?_
      refine EW.seq ?_
      refine EW.reg ?_
      refine EP.o rfl (Does.move rfl) ?_
      refine EP.o rfl (Does.move rfl) ?_
      refine EP.call2 rfl (Enters.fn fb40 rfl) (ablocks_c F pa k q _ (by omega) hW hFw) ?_
      rintro v9 w1 ⟨hx1, pb, rfl, hI'⟩
      have hz1 := hx1.size
      replace hC := hC.step0 hx1
      replace hW := hW.chg0 hx1
      replace hL := hL.chg0 hx1
      have hI := hI'; clear hI'
      have hpb := hI.lt
      refine EP.mmap2 sk rfl ?_
      intro b2 w2 hb2 hs2 hx2 hM2
      have hz2 := hx2.size
      replace hC := hC.step0 hx2
      replace hW := hW.chg0 hx2
      replace hL := hL.chg0 hx2
      replace hI := hI.chg0 hx2
      have hl2 := hM2.lt
      refine EP.o rfl (Does.move rfl) ?_
      refine EP.o rfl (Does.buildSL zr86 pl86 rfl (by rfl)) ?_
      refine EP.new2 rfl (News.box rfl rfl) ?_
      intro b3 w3 hb3 hs3 hx3 hB3
      have hz3 := hx3.size
      replace hC := hC.step0 hx3
      replace hW := hW.chg0 hx3
      replace hL := hL.chg0 hx3
      replace hI := hI.chg0 hx3
      replace hM2 := hM2.chg0 hx3
      refine EP.o rfl (Does.assign rfl) ?_
      refine EP.nil ?_
      refine EW.seq ?_
      refine EW.seq ?_
      refine EW.reg ?_
      refine EP.o rfl (Does.move rfl) ?_
      refine EP.o rfl (Does.nilCheck rfl) ?_
      refine EP.o rfl (Does.fieldAddr fl86_1 rfl) ?_
      refine EP.o rfl (Does.loadB o81 rfl (Keeps.now _) (by assumption) (by rfl)) ?_
      refine EP.call2 rfl (Enters.fn fb41 rfl) (bcount_c _ pb _ _ _ hI) ?_
      rintro _ w4 ⟨rfl, hx4⟩
      have hz4 := hx4.size
      replace hC := hC.step0 hx4
      replace hW := hW.chg0 hx4
      replace hL := hL.chg0 hx4
      replace hI := hI.chg0 hx4
      replace hM2 := hM2.chg0 hx4
      replace hB3 := hB3.chg0 hx4
      have hE : (dfaE k q budget).f = (blocksF q.S).1 ∧ (dfaE k q budget).nB = (blocksF q.S).2 ∧ (dfaE k q budget).bytes = leastL (blocksF q.S).1 (blocksF q.S).2 ∧ (dfaE k q budget).budget = budget ∧ (dfaE k q budget).k = k ∧ (dfaE k q budget).q = q := ⟨rfl, rfl, rfl, rfl, rfl, rfl⟩
      have hP : dfaP k q budget = if (exploreP (dfaE k q budget)).full then none else some (markP (exploreP (dfaE k q budget)).l) := rfl
      have hll := leastL_len (blocksF q.S).1 (blocksF q.S).2
      have hlt := leastL_lt (blocksF q.S).1 (blocksF q.S).2
      generalize dfaE k q budget = E at *
      generalize hf : (blocksF q.S).1 = f at *
      generalize hnB : (blocksF q.S).2 = nB at *
      rw [← hE.2.2.1] at hll hlt
      refine EP.o rfl (Does.move rfl) ?_
      refine EP.nil ?_
      refine EW.block ?_
      refine EW.loop (σ := Nat × Option Addr × Nat) (fun (i, A, c) => [(6, .pointer (some ⟨b3, 0, none⟩)), (27, .int .i64 (nB : Nat)), (28, .int .i64 i)]) (fun (i, A, c) wr => Chg [] w wr ∧ IsAut F wr pa k q ∧ Laid wr ∧ IsBlk (FR w.heap.size w1.heap.size []) wr pb f nB ∧ Mp sk wr b2 [] ∧ Blk wr b3 [.pointer (some ⟨pa, 0, none⟩), .pointer (some ⟨pb, 0, none⟩), .slice A i c, .slice none 0 0, .map (some b2), .int .i64 budget, .bool false] 86 ∧ Own wr (b3 + 1) 5 1 A i c (bys (E.bytes.take i)) ∧ i ≤ nB) (fun (i, A, c) wr => nB - i) (0, none, 0) ⟨rfl, rfl, rfl, trivial⟩ ?_ ?_
      · exact ⟨hC, hW, hL, hI, hM2, hB3, Own.nil _ _ _ _, Nat.zero_le _⟩
      rintro ⟨i, A, c⟩ w9 ⟨hC, hW, hL, hI, hM, hB3, hO, hi⟩
      have hOb := hO.blk
      have hpbl := hI.lt
      try have hzw := hC.size
      try have hz4 := hL.sz
      try have hlB3 := hB3.lt
      refine EW.seq ?_
      refine EW.reg ?_
      refine EP.o rfl (Does.cmp rfl rfl rfl) ?_
      refine EP.nil ?_
      refine EW.seq ?_
      refine EW.cond rfl (fun h2 => ?_) (fun h2 => ?_)
      · try simp at h2
        have hin : i < nB := by omega
        refine EW.skip ?_
        refine EW.seq ?_
        refine EW.block ?_
        refine EW.seq ?_
        refine EW.reg ?_
        refine EP.o rfl (Does.move rfl) ?_
        refine EP.o rfl (Does.assign rfl) ?_
        refine EP.nil ?_
        refine EW.seq ?_
        refine EW.reg ?_
        refine EP.o rfl (Does.move rfl) ?_
        refine EP.o rfl (Does.nilCheck rfl) ?_
        refine EP.o rfl (Does.fieldAddr fl86_1 rfl) ?_
        refine EP.o rfl (Does.loadB o81 rfl (Keeps.now _) (by assumption) (by rfl)) ?_
        refine EP.o rfl (Does.move rfl) ?_
        refine EP.call2 rfl (Enters.fn fb42 rfl) (bleast_c _ pb f nB i hin hbok.2.2 _ hL hI (fun x h => by have := h.2.1; omega)) ?_
        rintro _ w5 ⟨rfl, hx5⟩
        have hz5 := hx5.size
        replace hC := hC.step0 hx5
        replace hW := hW.chg0 hx5
        replace hL := hL.chg0 hx5
        replace hI := hI.chg0 hx5
        replace hM := hM.chg0 hx5
        replace hB3 := hB3.chg0 hx5
        replace hO := hO.chg0 hx5
        have hFn : ∀ x ∈ blkOf A, ¬ F x := fun x hx h => by have := hFw x h; have := hOb x hx; omega
        have hFn3 : ∀ x ∈ [b3], ¬ F x := fun x hx h => by have := hFw x h; have := List.mem_singleton.1 hx; omega
        have hFq : ∀ x ∈ blkOf A, ¬ FR w.heap.size w1.heap.size [] x := fun x hx h => by have := h.2.1; have := hOb x hx; omega
        have hFq3 : ∀ x ∈ [b3], ¬ FR w.heap.size w1.heap.size [] x := fun x hx h => by have := h.2.1; have := List.mem_singleton.1 hx; omega
        have hLd : ∀ x ∈ blkOf A, 4 ≤ x := fun x hx => by have := hOb x hx; omega
        have hLd3 : ∀ x ∈ [b3], 4 ≤ x := fun x hx => by have := List.mem_singleton.1 hx; omega
        refine EP.o rfl (Does.move rfl) ?_
        refine EP.o rfl (Does.extract rfl rfl) ?_
        refine EP.o rfl (Does.extract rfl rfl) ?_
        refine EP.o rfl (Does.assign rfl) ?_
        refine EP.o rfl (Does.assign rfl) ?_
        refine EP.nil ?_
        refine EW.reg ?_
        refine EP.o rfl (Does.move rfl) ?_
        refine EP.o rfl (Does.move rfl) ?_
        refine EP.o rfl (Does.nilCheck rfl) ?_
        refine EP.o rfl (Does.fieldAddr fl86_2 rfl) ?_
        refine EP.o rfl (Does.loadB o44 rfl (Keeps.now _) (by assumption) (by rfl)) ?_
        refine EP.o rfl (Does.move rfl) ?_
        refine EP.new2 rfl (News.buildL sl44 Tryz.underlying44 zr5 rfl rfl rfl (by rfl)) ?_
        intro b6 w6 hb6 hs6 hx6 hB6
        have hz6 := hx6.size
        replace hC := hC.step0 hx6
        replace hW := hW.chg0 hx6
        replace hL := hL.chg0 hx6
        replace hI := hI.chg0 hx6
        replace hM := hM.chg0 hx6
        replace hB3 := hB3.chg0 hx6
        replace hO := hO.chg0 hx6
        refine EP.append2 rfl el44 rfl rfl hO (Blk.rd (F := fun _ => True) (by assumption) rfl trivial) (by rfl) (by omega) (by omega) ?_
        intro A' c' w7 hO7 hx7 hA'
        have hz7 := hx7.size
        replace hC := hC.step hx7 (by intro x h; have := hOb x h; exact .inr (by omega))
        replace hW := hW.chg hx7 (by assumption)
        replace hL := hL.chg hx7 (by assumption)
        replace hI := hI.chg hx7 (by assumption)
        replace hM := hM.chg hx7 (by intro h; have := hOb _ h; omega)
        replace hB3 := hB3.chg hx7 (by intro h; have := hOb _ h; omega)
        replace hB6 := hB6.chg hx7 (by intro h; have := hOb _ h; omega)
        clear hO; have hO := hO7; clear hO7
        refine EP.o rfl (Does.nilCheck rfl) ?_
        refine EP.o rfl (Does.fieldAddr fl86_2 rfl) ?_
        refine EP.put2 (Puts.blk sz44 rfl rfl (by assumption) rfl rfl rfl rfl (by simp only [List.take, List.drop, List.append, List.cons_append, List.nil_append]; rfl)) ?_
        intro w8 hs8 hx8 hB8
        have hz8 := hx8.size
        replace hC := hC.step hx8 (by simp; omega)
        replace hW := hW.chg hx8 (by assumption)
        replace hL := hL.chg hx8 (by simp; omega)
        replace hI := hI.chg hx8 (by assumption)
        replace hM := hM.chg hx8 (by simp; omega)
        replace hO := (by exact hO.chg hx8 (by first | (intro x hx; simp at hx; left; omega) | (intro x hx; simp at hx; right; rw [hx]; assumption) | (intro x hx; have hx := List.mem_singleton.1 hx; right; intro h; have := hOb x (by rw [h]; exact List.mem_singleton.2 rfl); omega) | (intro x hx; have := hOb x hx; left; omega)))
        replace hB6 := hB6.chg hx8 (by simp; omega)
        clear hB3; have hB3 := hB8; clear hB8
        refine EP.nil ?_
        refine EW.reg ?_
        refine EP.o rfl (Does.addi rfl rfl (by omega)) ?_
        refine EP.o rfl (Does.move rfl) ?_
        refine EP.nil ?_
        refine ⟨(i + 1, A', c'), ⟨rfl, rfl, rfl, trivial⟩, ?_, ?_⟩
        refine ⟨hC, hW, hL, hI, hM, hB3, ?_, hin⟩
        have : E.bytes.take (i + 1) = E.bytes.take i ++ [firstS (blockOf f 256 i)] := by rw [hE.2.2.1]; exact leastL_take f nB i hin
        rw [this, show bys (E.bytes.take i ++ [firstS (blockOf f 256 i)]) = bys (E.bytes.take i) ++ bys [firstS (blockOf f 256 i)] from by simp [bys]]
        exact hO
        show nB - (i + 1) < nB - i
        omega
      · try simp at h2
        have hii : i = nB := by omega
        subst hii
        rw [List.take_of_length_le (by omega)] at hO
        have hF2 : ∀ x, (F x ∨ FR w.heap.size w1.heap.size [] x) → x < b2 := fun x h => by
          rcases h with h | h
          · have := hFw x h; omega
          · have := h.2.1; omega
        have hD : DOk (fun x => F x ∨ FR w.heap.size w1.heap.size [] x) w9 b3 pa pb E ⟨[], [], false⟩ A c none 0 b2 [] := by
          refine ⟨?_, ?_, ?_, hF2, ?_, Own.nil _ _ _ _, hM, by omega, ⟨rfl, fun i hi => absurd hi (by simp), fun i j hi => absurd hi (by simp)⟩, fun x ⟨i, hi, _⟩ => absurd hi (by simp), fun x hx => absurd hx (by simp), Nat.zero_le _⟩
          · unfold dC; rw [hll, hE.2.2.2.1]; exact hB3
          · rw [hE.2.2.2.2.1, hE.2.2.2.2.2]; exact hW.mono (fun x h _ => .inl h)
          · rw [hE.1, hE.2.1]; exact hI.mono (fun x h _ => .inr h)
          · rw [hll]; exact hO
        refine EW.exit (brk_here ?_)
        refine EW.seq ?_
        refine EW.seq ?_
        refine EW.reg ?_
        refine EP.o rfl (Does.move rfl) ?_
        refine EP.call2 rfl (Enters.fn fb43 rfl) (explore_c (fun x => F x ∨ FR w.heap.size w1.heap.size [] x) b3 pa pb E A c b2 w _ (by rw [hE.2.2.2.2.2]; exact hq) (by rw [hE.2.2.2.1]; exact hbud) hlt (by omega) hC (by omega) hD) ?_
        rintro v9 w9 ⟨hC, Al, cl, ms, n, hD, hI2, hfl⟩
        have hz := hC.size
        have hB0 := hD.blk
        refine EP.nil ?_
        refine EW.seq ?_
        refine EW.reg ?_
        refine EP.o rfl (Does.move rfl) ?_
        refine EP.o rfl (Does.nilCheck rfl) ?_
        refine EP.o rfl (Does.fieldAddr fl86_6 rfl) ?_
        refine EP.o rfl (Does.loadB o4 rfl (Keeps.now _) (by assumption) (by rfl)) ?_
        refine EP.nil ?_
        refine EW.cond rfl (fun h3 => ?_) (fun h3 => ?_)
        · try simp at h3
          refine EW.seq ?_
          refine EW.reg ?_
          refine EP.o rfl (Does.assign rfl) ?_
          refine EP.o rfl (Does.assign rfl) ?_
          refine EP.nil ?_
          refine EW.ret ?_
          refine Fin.two rfl rfl rfl ?_
          rw [hP, if_pos h3]
          exact ⟨hC, fun _ => rfl, fun l h => by cases h⟩
        · try simp at h3
          have hfull : (exploreP E).full = false := by simpa using h3
          have hnn := hfl hfull
          have hpos := exploreP_pos E hfull
          refine EW.skip ?_
          refine EW.seq ?_
          refine EW.reg ?_
          refine EP.o rfl (Does.move rfl) ?_
          refine EP.call2 rfl (Enters.fn fb44 rfl) (mark_c (fun x => F x ∨ FR w.heap.size w1.heap.size [] x) b3 pa pb E _ A c Al cl b2 ms w _ hC (by omega) hD (by rw [hE.2.2.2.1]; exact hbud) hI2.nv (fun i hi => by rw [hI2.nx i hi, if_pos (by omega)]; omega)) ?_
          rintro v9 w10 ⟨hC, hD⟩
          have hz := hC.size
          refine EP.nil ?_
          refine EW.seq ?_
          refine EW.reg ?_
          refine EP.o rfl (Does.move rfl) ?_
          refine EP.o rfl (Does.assign rfl) ?_
          refine EP.o rfl (Does.assign rfl) ?_
          refine EP.nil ?_
          refine EW.ret ?_
          refine Fin.two rfl rfl rfl ?_
          rw [hP, if_neg (by rw [hfull]; simp)]
          refine ⟨hC, fun h => (by cases h), fun l h => ?_⟩
          injection h with h
          subst h
          have hml := markP_len (exploreP E).l
          have hlb := hD.lb
          simp only [hml] at hlb
          refine ⟨b3, rfl, pa, pb, A, c, Al, cl, b2, ms, ?_, .inr (by omega), hD.bl.mono (fun x h _ => h.elim .inl (fun h => .inr h.1)), hD.ob.rd (fun x h _ => .inr (by omega)), hD.ol.rd (fun x h _ => .inr (by omega)), hD.sts, fun x hx => .inr (by have := hD.slo x hx; omega), ?_⟩
          · have := hD.blk
            unfold dC at this
            simp only [hfull] at this
            exact this
          · refine ⟨by rw [hml]; exact hpos, fun i hi => ?_, fun i hi => ?_, by rw [hll, hE.2.1], by rw [hE.2.1]; exact hbok.2.2, fun b hb => by rw [hE.1, hE.2.1]; exact hbok.2.1 b hb, by rw [hml, hE.2.2.2.1] at *; omega, hlt⟩
            · rw [hml] at hi
              rw [(markP_same _ i hi).2.2.1, hI2.nx i hi, if_pos (by omega), hll, hE.2.1]
            · rw [hml] at hi ⊢
              rw [(markP_same _ i hi).2.2.1]
              exact hI2.nv i hi
end Go.Clt
end
section
set_option linter.unusedVariables false
set_option linter.unusedSimpArgs false
set_option maxRecDepth 4000
namespace Go.Clt
set_option maxHeartbeats 4000000
open Go Go.RowKit Go.Proofs
theorem dstates_c (F : Nat → Prop) (p : Nat) (E : DE) (l : List St) (w : World) (hD : IsDfa F w p E l) : Calls P 15 #[.pointer (some ⟨p, 0, none⟩)] w (Ret fun u w' => u = .int .i64 (l.length : Nat) ∧ Chg [] w w') := by
  have hC := Chg.refl [] w
  obtain ⟨pa, pb, Ab, cb, Al, cl, bm, ms, h⟩ := hD
  have hB0 := h.blk
  try have hlB0 := hB0.lt
  refine enter Tryz.func15 rfl rfl ?_
  refine EW.seq ?_
  refine EW.reg ?_
  refine EP.o rfl (Does.assign rfl) ?_
  refine EP.nil ?_
  refine EW.seq ?_
  refine EW.seq ?_
  refine EW.reg ?_
  refine EP.o rfl (Does.move rfl) ?_
  refine EP.o rfl (Does.eqPtr Tryz.underlying31 rfl rfl) ?_
  refine EP.nil ?_
  refine EW.cond rfl (fun h0 => ?_) (fun h0 => ?_)
  · try simp at h0
    all_goals cases h0
  · try simp at h0
    refine EW.skip ?_
    refine EW.seq ?_
    refine EW.reg ?_
    refine EP.o rfl (Does.move rfl) ?_
    refine EP.o rfl (Does.nilCheck rfl) ?_
    refine EP.o rfl (Does.fieldAddr fl86_3 rfl) ?_
    refine EP.o rfl (Does.loadB o84 rfl (Keeps.now _) (by assumption) (by rfl)) ?_
    refine EP.o rfl (Does.lenL Tryz.underlying84 rfl) ?_
    refine EP.o rfl (Does.assign rfl) ?_
    refine EP.nil ?_
    refine EW.ret ?_
    refine Fin.one rfl rfl ?_
    exact ⟨rfl, hC⟩
theorem dstates_nil_c (w : World) : Calls P 15 #[.pointer none] w (Ret fun u w' => u = .int .i64 0 ∧ Chg [] w w') := by
  refine enter Tryz.func15 rfl rfl ?_
  refine EW.seq ?_
  refine EW.reg ?_
  refine EP.o rfl (Does.assign rfl) ?_
  refine EP.nil ?_
  refine EW.seq ?_
  refine EW.seq ?_
  refine EW.reg ?_
  refine EP.o rfl (Does.move rfl) ?_
  refine EP.o rfl (Does.eqPtr Tryz.underlying31 rfl rfl) ?_
  refine EP.nil ?_
  refine EW.cond rfl (fun h0 => ?_) (fun h0 => ?_)
  · try simp at h0
    refine EW.seq ?_
    refine EW.reg ?_
    refine EP.o rfl (Does.assign rfl) ?_
    refine EP.nil ?_
    refine EW.ret ?_
    refine Fin.one rfl rfl ?_
    exact ⟨rfl, Chg.refl [] w⟩
  · try simp at h0
    all_goals cases h0
theorem dhas_c (F : Nat → Prop) (p : Nat) (E : DE) (l : List St) (i : Int) (w : World) (hD : IsDfa F w p E l) : Calls P 47 #[.pointer (some ⟨p, 0, none⟩), .int .i64 i] w (Ret fun u w' => u = .bool (decide (0 ≤ i ∧ i < l.length)) ∧ Chg [] w w') := by
  have hC := Chg.refl [] w
  refine enter Tryz.func47 rfl rfl ?_
  refine EW.seq ?_
  refine EW.reg ?_
  refine EP.o rfl (Does.assign rfl) ?_
  refine EP.nil ?_
  refine EW.seq ?_
  refine EW.reg ?_
  refine EP.o rfl (Does.move rfl) ?_
  refine EP.o rfl (Does.cmp rfl rfl rfl) ?_
  refine EP.o rfl (Does.move rfl) ?_
  refine EP.bsplit (d := 7) rfl (fun h1 => ?_) (fun h1 => ?_)
  · try simp at h1
    refine EP.ung rfl rfl rfl ?_
    refine EP.o rfl (Does.move rfl) ?_
    refine EP.ung rfl rfl rfl ?_
    refine EP.o rfl (Does.move rfl) ?_
    refine EP.ung rfl rfl rfl ?_
    refine EP.call2 rfl (Enters.fn fb15 rfl) (dstates_c F p E l _ hD) ?_
    rintro _ w1 ⟨rfl, hx1⟩
    have hz1 := hx1.size
    replace hC := hC.step0 hx1
    replace hD := hD.chg0 hx1
    refine EP.ung rfl rfl rfl ?_
    refine EP.o rfl (Does.cmp rfl rfl rfl) ?_
    refine EP.o rfl (Does.pickT rfl rfl) ?_
    refine EP.o rfl (Does.assign rfl) ?_
    refine EP.nil ?_
    refine EW.ret ?_
    refine Fin.one rfl rfl ?_
    exact ⟨vbool (by rw [Bool.eq_iff_iff, cmpB_lss, decide_eq_true_iff]; omega), hC⟩
  · try simp at h1
    refine EP.skp rfl rfl rfl rfl rfl (fun h => by cases h) ?_
    refine EP.skp rfl rfl rfl rfl rfl (fun h => by cases h) ?_
    refine EP.skp rfl rfl rfl rfl rfl (fun h => by cases h) ?_
    refine EP.skp rfl rfl rfl rfl rfl (fun h => by cases h) ?_
    refine EP.o rfl (Does.pickF rfl rfl) ?_
    refine EP.o rfl (Does.assign rfl) ?_
    refine EP.nil ?_
    refine EW.ret ?_
    refine Fin.one rfl rfl ?_
    exact ⟨vbool (by rw [Bool.eq_iff_iff, decide_eq_true_iff]; simp; omega), hC⟩
theorem dhas_nil_c (i : Int) (w : World) : Calls P 47 #[.pointer none, .int .i64 i] w (Ret fun u w' => u = .bool false ∧ Chg [] w w') := by
  have hC := Chg.refl [] w
  refine enter Tryz.func47 rfl rfl ?_
  refine EW.seq ?_
  refine EW.reg ?_
  refine EP.o rfl (Does.assign rfl) ?_
  refine EP.nil ?_
  refine EW.seq ?_
  refine EW.reg ?_
  refine EP.o rfl (Does.move rfl) ?_
  refine EP.o rfl (Does.cmp rfl rfl rfl) ?_
  refine EP.o rfl (Does.move rfl) ?_
  refine EP.bsplit (d := 7) rfl (fun h1 => ?_) (fun h1 => ?_)
  · try simp at h1
    refine EP.ung rfl rfl rfl ?_
    refine EP.o rfl (Does.move rfl) ?_
    refine EP.ung rfl rfl rfl ?_
    refine EP.o rfl (Does.move rfl) ?_
    refine EP.ung rfl rfl rfl ?_
    refine EP.call2 rfl (Enters.fn fb15 rfl) (dstates_nil_c _) ?_
    rintro _ w1 ⟨rfl, hx1⟩
    have hz1 := hx1.size
    replace hC := hC.step0 hx1
    refine EP.ung rfl rfl rfl ?_
    refine EP.o rfl (Does.cmp rfl rfl rfl) ?_
    refine EP.o rfl (Does.pickT rfl rfl) ?_
    refine EP.o rfl (Does.assign rfl) ?_
    refine EP.nil ?_
    refine EW.ret ?_
    refine Fin.one rfl rfl ?_
    exact ⟨vbool (by rw [cmpB_lssF]; omega), hC⟩
  · try simp at h1
    refine EP.skp rfl rfl rfl rfl rfl (fun h => by cases h) ?_
    refine EP.skp rfl rfl rfl rfl rfl (fun h => by cases h) ?_
    refine EP.skp rfl rfl rfl rfl rfl (fun h => by cases h) ?_
    refine EP.skp rfl rfl rfl rfl rfl (fun h => by cases h) ?_
    refine EP.o rfl (Does.pickF rfl rfl) ?_
    refine EP.o rfl (Does.assign rfl) ?_
    refine EP.nil ?_
    refine EW.ret ?_
    refine Fin.one rfl rfl ?_
    exact ⟨rfl, hC⟩
def dNext (E : DE) (l : List St) (n b : Nat) : Nat := (l.getD n default).next.getD (E.f.getD b 0) 0
theorem dNext_lt {E : DE} {l : List St} (h : DGood E l) {n b : Nat} (hn : n < l.length) (hb : b < 256) : dNext E l n b < l.length := by
  unfold dNext
  exact h.nv n hn _ (getD_mem _ 0 _ (by rw [h.nx n hn]; exact h.fv b hb))
theorem dnext_c (F : Nat → Prop) (p : Nat) (E : DE) (l : List St) (n b : Nat) (hn : n < l.length) (hb : b < 256) (w : World) (hD : IsDfa F w p E l) : Calls P 16 #[.pointer (some ⟨p, 0, none⟩), .int .i64 (n : Nat), .int .u8 (b : Nat)] w (Ret fun u w' => u = .tuple #[.int .i64 (dNext E l n b : Nat), .bool true] ∧ Chg [] w w') := by
  have hC := Chg.refl [] w
  have hg := hD.good
  have hnx := hg.nx n hn
  have hfv := hg.fv b hb
  have hle := hg.le
  refine enter Tryz.func16 rfl rfl ?_
  refine EW.seq ?_
  refine EW.reg ?_
  refine EP.o rfl (Does.assign rfl) ?_
  refine EP.o rfl (Does.assign rfl) ?_
  refine EP.nil ?_
  refine EW.seq ?_
  refine EW.seq ?_
  refine EW.reg ?_
  refine EP.o rfl (Does.move rfl) ?_
  refine EP.o rfl (Does.move rfl) ?_
  refine EP.call2 rfl (Enters.fn fb47 rfl) (dhas_c F p E l n _ hD) ?_
  rintro _ w1 ⟨rfl, hx1⟩
  have hz1 := hx1.size
  replace hC := hC.step0 hx1
  replace hD := hD.chg0 hx1
  refine EP.o rfl (Does.not rfl) ?_
  refine EP.nil ?_
  refine EW.cond rfl (fun h1 => ?_) (fun h1 => ?_)
  · try simp at h1
    omega
  · try simp at h1
    obtain ⟨pa, pb, Ab, cb, Al, cl, bm, ms, h⟩ := hD
    have hB0 := h.blk
    have hI := h.bl
    have hk := h.sts.ok n hn
    have hBn := hk.blk
    have hOn := hk.on
    have hml := h.sts.len
    have hAl : ∃ g off, Al = some ⟨g, off, none⟩ := by obtain ⟨g, off, h, _⟩ := h.rl.at_ (by omega); exact ⟨g, off, h⟩
    obtain ⟨g, off, rfl⟩ := hAl
    have hR := h.rl
    try have hlB0 := hB0.lt
    try have hlBn := hBn.lt
    try have hlR := hR.lt
    refine EW.skip ?_
    refine EW.seq ?_
    refine EW.drw' (S := []) 16 [(0, 0), (0, 1), (0, 2), (0, 3), (0, 4), (0, 5), (0, 6), (0, 7), (0, 8), (0, 9), (0, 10), (0, 11), (0, 12), (0, 13), (0, 14), (1, 15), (2, 16), (2, 17), (2, 18), (2, 19)] mo (by kernel_rfl) ?_
    intro w2 hx2 hh2
    have hz2 := hx2.size
    replace hC := hC.step0 hx2
    replace hB0 := hB0.chg0 hx2
    replace hI := hI.chg0 hx2
    replace hBn := hBn.chg0 hx2
    replace hR := hR.chg0 hx2
    replace hOn := hOn.chg0 hx2
    have hCS2 := Chg.refl ([]) w2
    have hcell := (hR.one (ptrsV_get ms n (by omega))).2
    refine EP.f rfl (Does.move rfl) ?_
    refine EP.f rfl (Does.nilCheck rfl) ?_
    refine EP.f rfl (Does.fieldAddr fl86_3 rfl) ?_
    refine EP.f rfl (Does.loadBc o84 rfl (by assumption) (by simp; done) (by rfl)) ?_
    refine EP.f rfl (Does.move rfl) ?_
    refine EP.f rfl (Does.indexAddr1 sl84 rfl rfl (by omega) (by omega)) ?_
    refine EP.f rfl (Does.load1c o92 rfl hcell (by simp; done)) ?_
    refine EP.f rfl (Does.nilCheck rfl) ?_
    refine EP.f rfl (Does.fieldAddr fl91_2 rfl) ?_
    refine EP.f rfl (Does.loadBc o24 rfl (by assumption) (by simp; done) (by rfl)) ?_
    refine EP.f rfl (Does.move rfl) ?_
    refine EP.f rfl (Does.nilCheck rfl) ?_
    refine EP.f rfl (Does.fieldAddr fl86_1 rfl) ?_
    refine EP.f rfl (Does.loadBc o81 rfl (by assumption) (by simp; done) (by rfl)) ?_
    refine EP.f rfl (Does.move rfl) ?_
    refine EP.call1 rfl (Enters.fn fb48 rfl) (bof_c F pb E.f E.nB b hb _ hI) ?_
    rintro _ w3 ⟨rfl, hx3⟩
    have hz3 := hx3.size
    replace hC := hC.step0 hx3
    replace hB0 := hB0.chg0 hx3
    replace hI := hI.chg0 hx3
    replace hBn := hBn.chg0 hx3
    replace hR := hR.chg0 hx3
    replace hOn := hOn.chg0 hx3
    replace hCS2 := hCS2.step0 hx3
    refine ⟨hCS2, ?_⟩
    have hrn := hOn.rd (F := fun _ => True) (fun _ _ _ => trivial)
    obtain ⟨g2, off2, hA2, _⟩ := hrn.at_ (by omega)
    rw [hA2] at hrn
    have hcell2 := (hrn.one (nats_get (l.getD n default).next (E.f.getD b 0) (by omega))).2
    simp only [hA2]
    refine EP.o rfl (Does.indexAddr1 sl24 rfl rfl (by omega) (by omega)) ?_
    refine EP.o rfl (Does.load1 o3 rfl (Keeps.now _) hcell2) ?_
    refine EP.o rfl (Does.assign rfl) ?_
    refine EP.o rfl (Does.assign rfl) ?_
    refine EP.nil ?_
    refine EW.ret ?_
    refine Fin.two rfl rfl rfl ?_
    exact ⟨rfl, hC⟩
end Go.Clt
end
section
set_option linter.unusedVariables false
set_option linter.unusedSimpArgs false
set_option maxRecDepth 4000
namespace Go.Clt
set_option maxHeartbeats 4000000
open Go Go.RowKit Go.Proofs
theorem dnext_nil_c (n b : Int) (w : World) : Calls P 16 #[.pointer none, .int .i64 n, .int .u8 b] w (Ret fun u w' => u = .tuple #[.int .i64 0, .bool false] ∧ Chg [] w w') := by
  have hC := Chg.refl [] w
  refine enter Tryz.func16 rfl rfl ?_
  refine EW.seq ?_
  refine EW.reg ?_
  refine EP.o rfl (Does.assign rfl) ?_
  refine EP.o rfl (Does.assign rfl) ?_
  refine EP.nil ?_
  refine EW.seq ?_
  refine EW.seq ?_
  refine EW.reg ?_
  refine EP.o rfl (Does.move rfl) ?_
  refine EP.o rfl (Does.move rfl) ?_
  refine EP.call2 rfl (Enters.fn fb47 rfl) (dhas_nil_c n _) ?_
  rintro _ w1 ⟨rfl, hx1⟩
  have hz1 := hx1.size
  replace hC := hC.step0 hx1
  refine EP.o rfl (Does.not rfl) ?_
  refine EP.nil ?_
  refine EW.cond rfl (fun h1 => ?_) (fun h1 => ?_)
  · try simp at h1
    refine EW.seq ?_
    refine EW.reg ?_
    refine EP.o rfl (Does.assign rfl) ?_
    refine EP.o rfl (Does.assign rfl) ?_
    refine EP.nil ?_
    refine EW.ret ?_
    refine Fin.two rfl rfl rfl ?_
    exact ⟨rfl, hC⟩
  · try simp at h1
    all_goals cases h1
theorem dmeant_c (F : Nat → Prop) (p : Nat) (E : DE) (l : List St) (i : Int) (w : World) (hD : IsDfa F w p E l) : Calls P 18 #[.pointer (some ⟨p, 0, none⟩), .int .i64 i] w (Ret fun u w' => u = .bool (decide (0 ≤ i ∧ i < l.length) && (l.getD i.toNat default).meant) ∧ Chg [] w w') := by
  have hC := Chg.refl [] w
  have hle := hD.good.le
  refine enter Tryz.func18 rfl rfl ?_
  refine EW.seq ?_
  refine EW.reg ?_
  refine EP.o rfl (Does.assign rfl) ?_
  refine EP.nil ?_
  refine EW.seq ?_
  refine EW.reg ?_
  refine EP.o rfl (Does.move rfl) ?_
  refine EP.o rfl (Does.move rfl) ?_
  refine EP.call2 rfl (Enters.fn fb47 rfl) (dhas_c F p E l i _ hD) ?_
  rintro _ w1 ⟨rfl, hx1⟩
  have hz1 := hx1.size
  replace hC := hC.step0 hx1
  replace hD := hD.chg0 hx1
  refine EP.o rfl (Does.move rfl) ?_
  refine EP.bsplit (d := 8) rfl (fun h1 => ?_) (fun h1 => ?_)
  · try simp at h1
    have hi : 0 ≤ i ∧ i < l.length := by simpa using h1
    obtain ⟨n, rfl⟩ := Int.eq_ofNat_of_zero_le hi.1
    have hn : n < l.length := by omega
    obtain ⟨pa, pb, Ab, cb, Al, cl, bm, ms, h⟩ := hD
    have hB0 := h.blk
    have hBn := (h.sts.ok n hn).blk
    have hml := h.sts.len
    have hAl : ∃ g off, Al = some ⟨g, off, none⟩ := by obtain ⟨g, off, h, _⟩ := h.rl.at_ (by omega); exact ⟨g, off, h⟩
    obtain ⟨g, off, rfl⟩ := hAl
    have hcell := (h.rl.one (ptrsV_get ms n (by omega))).2
    try have hlB0 := hB0.lt
    try have hlBn := hBn.lt
    refine EP.ung rfl rfl rfl ?_
    refine EP.o rfl (Does.move rfl) ?_
    refine EP.ung rfl rfl rfl ?_
    refine EP.o rfl (Does.nilCheck rfl) ?_
    refine EP.ung rfl rfl rfl ?_
    refine EP.o rfl (Does.fieldAddr fl86_3 rfl) ?_
    refine EP.ung rfl rfl rfl ?_
    refine EP.o rfl (Does.loadB o84 rfl (Keeps.now _) (by assumption) (by rfl)) ?_
    refine EP.ung rfl rfl rfl ?_
    refine EP.o rfl (Does.move rfl) ?_
    refine EP.ung rfl rfl rfl ?_
    refine EP.o rfl (Does.indexAddr1 sl84 rfl rfl (by omega) (by omega)) ?_
    refine EP.ung rfl rfl rfl ?_
    refine EP.o rfl (Does.load1 o92 rfl (Keeps.now _) hcell) ?_
    refine EP.ung rfl rfl rfl ?_
    refine EP.o rfl (Does.nilCheck rfl) ?_
    refine EP.ung rfl rfl rfl ?_
    refine EP.o rfl (Does.fieldAddr fl91_3 rfl) ?_
    refine EP.ung rfl rfl rfl ?_
    refine EP.o rfl (Does.loadB o4 rfl (Keeps.now _) (by assumption) (by rfl)) ?_
    refine EP.o rfl (Does.pickT rfl rfl) ?_
    refine EP.o rfl (Does.assign rfl) ?_
    refine EP.nil ?_
    refine EW.ret ?_
    refine Fin.one rfl rfl ?_
    exact ⟨vbool (by rw [decide_eq_true hi]; rfl), hC⟩
  · try simp at h1
    refine EP.skp rfl rfl rfl rfl rfl (fun h => by cases h) ?_
    refine EP.skp rfl rfl rfl rfl rfl (fun h => by cases h) ?_
    refine EP.skp rfl rfl rfl rfl rfl (fun h => by cases h) ?_
    refine EP.skp rfl rfl rfl rfl rfl (fun h => by cases h) ?_
    refine EP.skp rfl rfl rfl rfl rfl (fun h => by cases h) ?_
    refine EP.skp rfl rfl rfl rfl rfl (fun h => by cases h) ?_
    refine EP.skp rfl rfl rfl rfl rfl (fun h => by cases h) ?_
    refine EP.skp rfl rfl rfl rfl rfl (fun h => by cases h) ?_
    refine EP.skp rfl rfl rfl rfl rfl (fun h => by cases h) ?_
    refine EP.skp rfl rfl rfl rfl rfl (fun h => by cases h) ?_
    refine EP.o rfl (Does.pickF rfl rfl) ?_
    refine EP.o rfl (Does.assign rfl) ?_
    refine EP.nil ?_
    refine EW.ret ?_
    refine Fin.one rfl rfl ?_
    exact ⟨vbool (by rw [decide_eq_false (by simpa using h1)]; rfl), hC⟩
theorem dmeant_nil_c (i : Int) (w : World) : Calls P 18 #[.pointer none, .int .i64 i] w (Ret fun u w' => u = .bool false ∧ Chg [] w w') := by
  have hC := Chg.refl [] w
  refine enter Tryz.func18 rfl rfl ?_
  refine EW.seq ?_
  refine EW.reg ?_
  refine EP.o rfl (Does.assign rfl) ?_
  refine EP.nil ?_
  refine EW.seq ?_
  refine EW.reg ?_
  refine EP.o rfl (Does.move rfl) ?_
  refine EP.o rfl (Does.move rfl) ?_
  refine EP.call2 rfl (Enters.fn fb47 rfl) (dhas_nil_c i _) ?_
  rintro _ w1 ⟨rfl, hx1⟩
  have hz1 := hx1.size
  replace hC := hC.step0 hx1
  refine EP.o rfl (Does.move rfl) ?_
  refine EP.bsplit (d := 8) rfl (fun h1 => ?_) (fun h1 => ?_)
  · try simp at h1
    all_goals cases h1
  · try simp at h1
    refine EP.skp rfl rfl rfl rfl rfl (fun h => by cases h) ?_
    refine EP.skp rfl rfl rfl rfl rfl (fun h => by cases h) ?_
    refine EP.skp rfl rfl rfl rfl rfl (fun h => by cases h) ?_
    refine EP.skp rfl rfl rfl rfl rfl (fun h => by cases h) ?_
    refine EP.skp rfl rfl rfl rfl rfl (fun h => by cases h) ?_
    refine EP.skp rfl rfl rfl rfl rfl (fun h => by cases h) ?_
    refine EP.skp rfl rfl rfl rfl rfl (fun h => by cases h) ?_
    refine EP.skp rfl rfl rfl rfl rfl (fun h => by cases h) ?_
    refine EP.skp rfl rfl rfl rfl rfl (fun h => by cases h) ?_
    refine EP.skp rfl rfl rfl rfl rfl (fun h => by cases h) ?_
    refine EP.o rfl (Does.pickF rfl rfl) ?_
    refine EP.o rfl (Does.assign rfl) ?_
    refine EP.nil ?_
    refine EW.ret ?_
    refine Fin.one rfl rfl ?_
    exact ⟨rfl, hC⟩
theorem drun_nil_c (s : ByteArray) (hs : s.size ≤ 1000000000) (w : World) : Calls P 19 #[.pointer none, .string s] w (Ret fun u w' => u = .int .i64 0 ∧ Chg [] w w') := by
  have hC := Chg.refl [] w
  have hsl := strL_length s
  refine enter Tryz.func19 rfl rfl ?_
  refine EW.seq ?_
  refine EW.reg ?_
  refine EP.o rfl (Does.assign rfl) ?_
  refine EP.nil ?_
  refine EW.seq ?_
  refine EW.reg ?_
  refine EP.o rfl (Does.assign rfl) ?_
  refine EP.nil ?_
  refine EW.seq ?_
  refine EW.seq ?_
  refine EW.reg ?_
  refine EP.o rfl (Does.move rfl) ?_
  refine EP.o rfl (Does.lenS Tryz.underlying9 rfl) ?_
  refine EP.o rfl (Does.move rfl) ?_
  refine EP.nil ?_
  refine EW.block ?_
  refine EW.loop (σ := Nat) (fun i => [(0, .pointer none), (1, .string s), (5, .int .i64 0), (8, .int .i64 (s.size : Nat)), (9, .int .i64 i)]) (fun i wr => Chg [] w wr ∧ i ≤ s.size) (fun i wr => s.size - i) 0 ⟨rfl, rfl, rfl, rfl, rfl, trivial⟩ ?_ ?_
  · exact ⟨hC, Nat.zero_le _⟩
  rintro i w9 ⟨hC, hi⟩
  try have hzw := hC.size
  refine EW.seq ?_
  refine EW.reg ?_
  refine EP.o rfl (Does.cmp rfl rfl rfl) ?_
  refine EP.nil ?_
  refine EW.seq ?_
  refine EW.cond rfl (fun h1 => ?_) (fun h1 => ?_)
  · try simp at h1
    have hin : i < s.size := by omega
    obtain ⟨u8, hu, hu2⟩ := strL_get s i hin
    refine EW.skip ?_
    refine EW.seq ?_
    refine EW.block ?_
    refine EW.seq ?_
    refine EW.reg ?_
    refine EP.o rfl (Does.move rfl) ?_
    refine EP.o rfl (Does.assign rfl) ?_
    refine EP.nil ?_
    refine EW.reg ?_
    refine EP.o rfl (Does.move rfl) ?_
    refine EP.o rfl (Does.move rfl) ?_
    refine EP.o rfl (Does.move rfl) ?_
    refine EP.o rfl (Does.move rfl) ?_
    refine EP.o rfl (Does.indexS Tryz.underlying9 rfl rfl (by omega) (by exact hu)) ?_
    refine EP.call2 rfl (Enters.fn fb16 rfl) (dnext_nil_c 0 _ _) ?_
    rintro _ w1 ⟨rfl, hx1⟩
    have hz1 := hx1.size
    replace hC := hC.step0 hx1
    refine EP.o rfl (Does.move rfl) ?_
    refine EP.o rfl (Does.extract rfl rfl) ?_
    refine EP.o rfl (Does.extract rfl rfl) ?_
    refine EP.o rfl (Does.assign rfl) ?_
    refine EP.nil ?_
    refine EW.reg ?_
    refine EP.o rfl (Does.addi rfl rfl (by omega)) ?_
    refine EP.o rfl (Does.move rfl) ?_
    refine EP.nil ?_
    refine ⟨i + 1, ⟨rfl, rfl, rfl, rfl, rfl, trivial⟩, ?_, ?_⟩
    exact ⟨hC, hin⟩
    omega
  · try simp at h1
    refine EW.exit (brk_here ?_)
    refine EW.seq ?_
    refine EW.reg ?_
    refine EP.o rfl (Does.move rfl) ?_
    refine EP.o rfl (Does.assign rfl) ?_
    refine EP.nil ?_
    refine EW.ret ?_
    refine Fin.one rfl rfl ?_
    exact ⟨rfl, hC⟩
theorem dmeans_nil_c (s : ByteArray) (hs : s.size ≤ 1000000000) (w : World) : Calls P 23 #[.pointer none, .string s] w (Ret fun u w' => u = .bool false ∧ Chg [] w w') := by
  have hC := Chg.refl [] w
  refine enter Tryz.func23 rfl rfl ?_
  refine EW.seq ?_
  refine EW.reg ?_
  refine EP.o rfl (Does.assign rfl) ?_
  refine EP.nil ?_
  refine EW.seq ?_
  refine EW.reg ?_
  refine EP.o rfl (Does.move rfl) ?_
  refine EP.o rfl (Does.move rfl) ?_
  refine EP.o rfl (Does.move rfl) ?_
  refine EP.call2 rfl (Enters.fn fb19 rfl) (drun_nil_c s hs _) ?_
  rintro _ w1 ⟨rfl, hx1⟩
  have hz1 := hx1.size
  replace hC := hC.step0 hx1
  refine EP.call2 rfl (Enters.fn fb18 rfl) (dmeant_nil_c _ _) ?_
  rintro _ w2 ⟨rfl, hx2⟩
  have hz2 := hx2.size
  replace hC := hC.step0 hx2
  refine EP.o rfl (Does.assign rfl) ?_
  refine EP.nil ?_
  refine EW.ret ?_
  refine Fin.one rfl rfl ?_
  exact ⟨rfl, hC⟩
theorem clone_c (l : List Nat) (F : Nat → Prop) (A : Option Addr) (c : Nat) (w : World) (hn : 0 < l.length) (hn2 : l.length ≤ 1000000) (hF : ∀ x, F x → x < w.heap.size) (hr : Rd F w 1 A l.length (bys l)) : Calls P 51 #[.slice A l.length c] w (Ret fun u w' => Chg [] w w' ∧ ∃ A' c', u = .slice A' l.length c' ∧ Own w' w.heap.size 5 1 A' l.length c' (bys l)) := by
  have hC := Chg.refl [] w
  have hA : ∃ g off, A = some ⟨g, off, none⟩ := by obtain ⟨g, off, h, _⟩ := hr.at_ hn; exact ⟨g, off, h⟩
  obtain ⟨g, off, rfl⟩ := hA
  have hb1 : (bys l).all Value.oneCell' = true := by
    clear hr hn hn2
    induction l with
    | nil => rfl
    | cons b r ih => simp only [bys, List.map_cons, List.all_cons, Bool.and_eq_true] at *; exact ⟨rfl, ih⟩
  refine enter Tryz.func51 rfl rfl ?_
  refine EW.seq ?_
  refine EW.reg ?_
  refine EP.o rfl (Does.assign rfl) ?_
  refine EP.nil ?_
  refine EW.seq ?_
  refine EW.seq ?_
  refine EW.reg ?_
  refine EP.o rfl (Does.move rfl) ?_
  refine EP.o rfl (Does.eqSl Tryz.underlying44 rfl rfl) ?_
  refine EP.nil ?_
  refine EW.condF (rfl) ?_
  refine EW.skip ?_
  refine EW.seq ?_
  refine EW.reg ?_
  refine EP.new2 rfl (News.buildL sl44 Tryz.underlying44 zr5 rfl rfl rfl (by rfl)) ?_
  intro b1 w1 hb1 hs1 hx1 hB1
  have hz1 := hx1.size
  replace hC := hC.step0 hx1
  replace hr := hr.chg0 hx1
  have hO : Own w1 w.heap.size 5 1 (some ⟨b1, 0, none⟩) 0 0 [] := Blk.own (cs := []) (by assumption) rfl (by omega) (by omega)
  have hOb := hO.blk
  refine EP.o rfl (Does.move rfl) ?_
  refine EP.append2 rfl el44 rfl rfl hO (hr) (by assumption) (by omega) (by omega) ?_
  intro A' c' w2 hO2 hx2 hA'
  have hz2 := hx2.size
  replace hC := hC.step hx2 (by intro x h; have := hOb x h; exact .inr (by omega))
  replace hr := hr.chg hx2 (by intro x hx hf; have := hOb x hx; have := hF x hf; omega)
  clear hO; have hO := hO2; clear hO2
  refine EP.o rfl (Does.assign rfl) ?_
  refine EP.nil ?_
  refine EW.ret ?_
  refine Fin.one rfl rfl ?_
  rw [Nat.zero_add, List.nil_append] at hO
  exact ⟨hC, A', c', by rw [Nat.zero_add], hO⟩
theorem dbytes_c (F : Nat → Prop) (p : Nat) (E : DE) (l : List St) (w : World) (hF : ∀ x, F x → x < w.heap.size) (hD : IsDfa F w p E l) : Calls P 22 #[.pointer (some ⟨p, 0, none⟩)] w (Ret fun u w' => Chg [] w w' ∧ ∃ A' c', u = .slice A' E.bytes.length c' ∧ Own w' w.heap.size 5 1 A' E.bytes.length c' (bys E.bytes)) := by
  have hC := Chg.refl [] w
  have hg := hD.good
  have hfv := hg.fv 0 (by decide)
  have hbl := hg.bl
  have hnb := hg.nb
  obtain ⟨pa, pb, Ab, cb, Al, cl, bm, ms, h⟩ := hD
  have hB0 := h.blk
  have hR := h.rb
  try have hlB0 := hB0.lt
  try have hlR := hR.lt
  refine enter Tryz.func22 rfl rfl ?_
  refine EW.seq ?_
  refine EW.reg ?_
  refine EP.o rfl (Does.assign rfl) ?_
  refine EP.nil ?_
  refine EW.seq ?_
  refine EW.seq ?_
  refine EW.reg ?_
  refine EP.o rfl (Does.move rfl) ?_
  refine EP.o rfl (Does.eqPtr Tryz.underlying31 rfl rfl) ?_
  refine EP.nil ?_
  refine EW.cond rfl (fun h0 => ?_) (fun h0 => ?_)
  · try simp at h0
    all_goals cases h0
  · try simp at h0
    refine EW.skip ?_
    refine EW.seq ?_
    refine EW.reg ?_
    refine EP.o rfl (Does.move rfl) ?_
    refine EP.o rfl (Does.nilCheck rfl) ?_
    refine EP.o rfl (Does.fieldAddr fl86_2 rfl) ?_
    refine EP.o rfl (Does.loadB o44 rfl (Keeps.now _) (by assumption) (by rfl)) ?_
    refine EP.call2 rfl (Enters.fn fb51 rfl) (clone_c E.bytes F Ab cb _ (by omega) (by omega) hF hR) ?_
    rintro v9 w1 ⟨hx1, A', c', rfl, hO⟩
    have hz1 := hx1.size
    replace hC := hC.step0 hx1
    replace hB0 := hB0.chg0 hx1
    replace hR := hR.chg0 hx1
    refine EP.o rfl (Does.assign rfl) ?_
    refine EP.nil ?_
    refine EW.ret ?_
    refine Fin.one rfl rfl ?_
    exact ⟨hC, A', c', rfl, hO⟩
end Go.Clt
end
section
set_option linter.unusedVariables false
set_option linter.unusedSimpArgs false
set_option maxRecDepth 4000
namespace Go.Clt
set_option maxHeartbeats 4000000
open Go Go.RowKit Go.Proofs
def rangeOk (l : List Int) : Prop := ∀ x ∈ l, 0 ≤ x ∧ x ≤ 9223372036854775807
theorem rangeOk.set {l : List Int} (h : rangeOk l) (i : Nat) (v : Int) (hv : 0 ≤ v ∧ v ≤ 9223372036854775807) : rangeOk (l.set i v) := fun x hx => by
  rcases List.mem_or_eq_of_mem_set hx with h1 | h1
  · exact h x h1
  · rw [h1]; exact hv
theorem rangeOk.get {l : List Int} (h : rangeOk l) (i : Nat) : 0 ≤ l.getD i 0 ∧ l.getD i 0 ≤ 9223372036854775807 := by
  by_cases hi : i < l.length
  · exact h _ (getD_mem l 0 i hi)
  · rw [List.getD_eq_getElem?_getD, List.getElem?_eq_none (by omega)]; simp
end Go.Clt
end
section
set_option linter.unusedVariables false
set_option linter.unusedSimpArgs false
set_option maxRecDepth 4000
namespace Go.Clt
set_option maxHeartbeats 4000000
open Go Go.RowKit Go.Proofs
end Go.Clt
end
section
set_option maxHeartbeats 4000000
namespace Go.Clt
open Go
mutual
def synB : Syn → Bool
  | .node _ s _ _ _ l _ _ => decide (s < 2 ^ 256) && decide (l.length ≤ 2000000) && synsB l
def synsB : List Syn → Bool
  | [] => true
  | t :: r => synB t && synsB r
end
mutual
theorem SynOk.of : ∀ (t : Syn), synB t = true → SynOk t
  | .node k s mn mx lz l a b, h => by
    rw [synB, Bool.and_eq_true, Bool.and_eq_true] at h
    rw [SynOk]
    exact ⟨(of_decide_eq_true h.1.1 : s < 2 ^ 256), of_decide_eq_true h.1.2, SynsOk.of l h.2⟩
theorem SynsOk.of : ∀ (l : List Syn), synsB l = true → SynsOk l
  | [], _ => trivial
  | t :: r, h => by
    rw [synsB, Bool.and_eq_true] at h
    exact ⟨SynOk.of t h.1, SynsOk.of r h.2⟩
end
def strB : ByteArray := ⟨#[97, 42, 98]⟩
def sB : List Nat := strL strB
def cB : Cor := (coreP sB 0).1
def kB : Kn := (weighF cB).1
def qB : Wst := (weighF cB).2
def lB : List St := (dfaP kB qB 10).getD []
def EB : DE := dfaE kB qB 10
theorem okB : SynOk (parseP sB).1 ∧ deepQ (parseP sB).1 ≤ 100000000 := ⟨SynOk.of _ (by decide +kernel), by decide +kernel⟩
theorem noB : (coreP sB 0).2.2 = 0 := by decide +kernel
theorem lenB : (setsC cB).length = 2 := by decide +kernel
theorem lenqB : qB.S.length = 2 := by decide +kernel
theorem dfaB : dfaP kB qB 10 = some lB := by
  have h : (dfaP kB qB 10).isSome = true := by decide +kernel
  unfold lB
  cases hd : dfaP kB qB 10 with
  | none => rw [hd] at h; cases h
  | some l => rfl
end Go.Clt
end
section
set_option linter.unusedVariables false
set_option linter.unusedSimpArgs false
set_option maxRecDepth 4000
namespace Go.Clt
set_option maxHeartbeats 4000000
open Go Go.RowKit Go.Proofs
theorem autoparse_c (s : ByteArray) (mode : Int) (w : World) (hL : Laid w) (hok : (parseP (strL s)).2.2 = 0 → SynOk (parseP (strL s)).1 ∧ deepQ (parseP (strL s)).1 ≤ 100000000) (hsz : (coreP (strL s) mode).2.2 = 0 → (setsC (coreP (strL s) mode).1).length ≤ 600) :
    Calls P 39 #[.string s, .int .i64 mode] w (Ret fun u w' => Chg [] w w' ∧ ((coreP (strL s) mode).2.2 ≠ 0 → u = .tuple #[.pointer none, .int .i64 (coreP (strL s) mode).2.1, .int .i64 (coreP (strL s) mode).2.2]) ∧ ((coreP (strL s) mode).2.2 = 0 → ∃ p, u = .tuple #[.pointer (some ⟨p, 0, none⟩), .int .i64 0, .int .i64 0] ∧ IsAut (FR w.heap.size w'.heap.size []) w' p (weighF (coreP (strL s) mode).1).1 (weighF (coreP (strL s) mode).1).2)) := by
  have hC := Chg.refl [] w
  try have hz4 := hL.sz
  refine enter Tryz.func39 rfl rfl ?_
  refine EW.seq ?_
  refine EW.reg ?_
  refine EP.o rfl (Does.assign rfl) ?_
  refine EP.o rfl (Does.assign rfl) ?_
  refine EP.o rfl (Does.assign rfl) ?_
  refine EP.nil ?_
  refine EW.seq ?_
  refine EW.reg ?_
  refine EP.o rfl (Does.move rfl) ?_
  refine EP.o rfl (Does.move rfl) ?_
  refine EP.call2 rfl (Enters.fn fb61 rfl) (coreparse_c s mode _ hL hok) ?_
  rintro _ w1 ⟨hx1, ad, rfl, hT, hN⟩
  have hz1 := hx1.size
  replace hC := hC.step0 hx1
  replace hL := hL.chg0 hx1
  refine EP.o rfl (Does.move rfl) ?_
  refine EP.o rfl (Does.extract rfl rfl) ?_
  refine EP.o rfl (Does.extract rfl rfl) ?_
  refine EP.o rfl (Does.extract rfl rfl) ?_
  refine EP.o rfl (Does.assign rfl) ?_
  refine EP.o rfl (Does.assign rfl) ?_
  refine EP.o rfl (Does.assign rfl) ?_
  refine EP.nil ?_
  refine EW.seq ?_
  refine EW.seq ?_
  refine EW.reg ?_
  refine EP.o rfl (Does.move rfl) ?_
  refine EP.o rfl (Does.cmp rfl rfl rfl) ?_
  refine EP.nil ?_
  refine EW.cond rfl (fun h1 => ?_) (fun h1 => ?_)
  · try simp at h1
    refine EW.seq ?_
    refine EW.reg ?_
    refine EP.o rfl (Does.move rfl) ?_
    refine EP.o rfl (Does.move rfl) ?_
    refine EP.o rfl (Does.assign rfl) ?_
    refine EP.o rfl (Does.assign rfl) ?_
    refine EP.o rfl (Does.assign rfl) ?_
    refine EP.nil ?_
    refine EW.ret ?_
    refine Fin.three rfl rfl rfl rfl ?_
    obtain rfl := hN h1
    exact ⟨hC, fun _ => rfl, fun h => absurd h h1⟩
  · try simp at h1
    have h1' : (coreP (strL s) mode).2.2 = 0 := by simpa using h1
    have hT := hT h1'
    refine EW.skip ?_
    refine EW.seq ?_
    refine EW.reg ?_
    refine EP.o rfl (Does.move rfl) ?_
    refine EP.call2 rfl (Enters.fn fb37 rfl) (anew_c _ _ (FR w.heap.size w1.heap.size []) _ hT (fun x h => h.2.1) (by have := hsz h1'; omega)) ?_
    rintro v9 w2 ⟨hx2, hbig, hsm⟩
    have hz2 := hx2.size
    replace hC := hC.step0 hx2
    replace hL := hL.chg0 hx2
    obtain ⟨p, rfl, hA⟩ := hsm (hsz h1')
    refine EP.o rfl (Does.move rfl) ?_
    refine EP.o rfl (Does.extract rfl rfl) ?_
    refine EP.o rfl (Does.extract rfl rfl) ?_
    refine EP.o rfl (Does.assign rfl) ?_
    refine EP.o rfl (Does.assign rfl) ?_
    refine EP.nil ?_
    refine EW.seq ?_
    refine EW.reg ?_
    refine EP.o rfl (Does.move rfl) ?_
    refine EP.o rfl (Does.move rfl) ?_
    refine EP.o rfl (Does.assign rfl) ?_
    refine EP.o rfl (Does.assign rfl) ?_
    refine EP.o rfl (Does.assign rfl) ?_
    refine EP.nil ?_
    refine EW.ret ?_
    refine Fin.three rfl rfl rfl rfl ?_
    exact ⟨hC, fun h => absurd h1' h, fun _ => ⟨p, rfl, hA.mono (fun x h _ => ⟨by have := h.1; omega, h.2.1, h.2.2⟩)⟩⟩
end Go.Clt
end
section
set_option linter.unusedVariables false
set_option linter.unusedSimpArgs false
set_option maxRecDepth 4000
namespace Go.Clt
set_option maxHeartbeats 4000000
open Go Go.RowKit Go.Proofs
theorem retMono {p : Go.Program} {f : FuncId} {args : Array Value} {w : World} {T U : Value → World → Prop} (h : Calls p f args w (Ret T)) (hu : ∀ u w', T u w' → U u w') : Calls p f args w (Ret U) :=
  Calls.mono h fun e w'' he => by
    cases e with
    | returned v => exact hu _ _ he
    | panicked c => exact he.elim
    | outgrown => exact he.elim
theorem autoB (w : World) (hL : Laid w) : Calls P 39 #[.string strB, .int .i64 0] w (Ret fun u w' => Chg [] w w' ∧ ∃ p, u = .tuple #[.pointer (some ⟨p, 0, none⟩), .int .i64 0, .int .i64 0] ∧ IsAut (FR w.heap.size w'.heap.size []) w' p kB qB) :=
  retMono (autoparse_c strB 0 w hL (fun _ => okB) (fun _ => by have := lenB; unfold cB sB at this; omega)) fun _ _ ⟨hC, _, h⟩ => ⟨hC, h noB⟩
theorem dfaB_c (p : Nat) (F : Nat → Prop) (w : World) (hW : IsAut F w p kB qB) (hF : ∀ x, F x → x < w.heap.size) (hL : Laid w) : Calls P 13 #[.pointer (some ⟨p, 0, none⟩), .int .i64 10] w (Ret fun u w' => Chg [] w w' ∧ ∃ p, u = .tuple #[.pointer (some ⟨p, 0, none⟩), .int .i64 0] ∧ IsDfa (fun x => x < w'.heap.size) w' p EB lB) :=
  retMono (dnew_c F p kB qB 10 w hW hF hL (by rw [lenqB]; omega) (by omega)) fun _ _ ⟨hC, _, h⟩ => ⟨hC, by obtain ⟨p, h1, h2⟩ := h _ dfaB; exact ⟨p, h1, h2.mono fun _ _ h => h⟩⟩
end Go.Clt
end
section
set_option linter.unusedVariables false
set_option maxRecDepth 100000
set_option linter.unusedSimpArgs false
namespace Go.Clt
open Go Go.RowKit Go.Proofs Go.ChangeShapes Go.WideShapes
theorem own0 : ownKnob Tryz.prog.godebug = none := by kernel_rfl
theorem g32 : Tryz.prog.globalNamed "math/bits.deBruijn32tab" = some 3 := by kernel_rfl
theorem g64 : Tryz.prog.globalNamed "math/bits.deBruijn64tab" = some 0 := by kernel_rfl
theorem g10 : Tryz.prog.globalNamed "internal/strconv.uint64pow10" = some 1 := by kernel_rfl
theorem t32 : (Tryz.prog.globals[3]?).map (·.type) = some 313 := by kernel_rfl
theorem t64 : (Tryz.prog.globals[0]?).map (·.type) = some 226 := by kernel_rfl
theorem t10 : (Tryz.prog.globals[1]?).map (·.type) = some 301 := by kernel_rfl
theorem u313 : Tryz.prog.underlying 313 = some (.array 32 5) := by kernel_rfl
theorem u226 : Tryz.prog.underlying 226 = some (.array 64 5) := by kernel_rfl
theorem u301 : Tryz.prog.underlying 301 = some (.array 20 68) := by kernel_rfl
theorem u5 : Tryz.prog.underlying 5 = some (.int .u8) := by kernel_rfl
theorem u68 : Tryz.prog.underlying 68 = some (.int .u64) := by kernel_rfl
theorem u3 : Tryz.prog.underlying 3 = some (.int .i64) := by kernel_rfl
theorem u4 : Tryz.prog.underlying 4 = some .bool := by kernel_rfl
theorem u9 : Tryz.prog.underlying 9 = some .string := by kernel_rfl
theorem c313 : Tryz.prog.cellsOf 313 = 32 := by kernel_rfl
theorem c226 : Tryz.prog.cellsOf 226 = 64 := by kernel_rfl
theorem c301 : Tryz.prog.cellsOf 301 = 20 := by kernel_rfl
theorem c5 : Tryz.prog.cellsOf 5 = 1 := by kernel_rfl
theorem c68 : Tryz.prog.cellsOf 68 = 1 := by kernel_rfl
def zs32 : List Int := [0, 1, 28, 2, 29, 14, 24, 3, 30, 22, 20, 15, 25, 17, 4, 8, 31, 27, 13, 23, 21, 19, 16, 7, 26, 12, 18, 6, 11, 5, 10, 9]
def zs64 : List Int := Lib.deBruijn64tab.map Int.ofNat
def zs10 : List Int := (List.range 20).map fun j => ((10 ^ j : Nat) : Int)
def laidL : List (String × DataW Unit) := [("math/bits.deBruijn32tab", Proofs.YtckdapbopihofaaGreatDoor.Rows.laid_math_bits_deBruijn32tab), ("math/bits.deBruijn64tab", Proofs.YtckdapbopihofaaGreatDoor.Rows.laid_math_bits_deBruijn64tab), ("internal/strconv.uint64pow10", Proofs.YtckdapbopihofaaGreatDoor.Rows.laid_internal_strconv_uint64pow10)]
theorem laidL_is : laidL = [("math/bits.deBruijn32tab", Lib.tabData .u8 zs32), ("math/bits.deBruijn64tab", Lib.tabData .u8 zs64), ("internal/strconv.uint64pow10", Lib.tabData .u64 zs10)] := by kernel_rfl
theorem laid_of {W : World} (h : laidMetH Tryz.prog laidL W) : Laid W := by
  rw [MakeChecks.laidMetH_plain _ _ _ (by kernel_rfl), laidL_is] at h
  have h32 : Lib.TabIs Tryz.prog W "math/bits.deBruijn32tab" .u8 zs32 := Lib.tabIs_of_head (rest := _) g32 t32 u313 u5 c5 c313 h
  have h64 : Lib.TabIs Tryz.prog W "math/bits.deBruijn64tab" .u8 zs64 :=
    Lib.tabIs_of_head (rest := []) g64 t64 u226 u5 c5 c226 (h.filter fun x => x.1 == "math/bits.deBruijn64tab")
  have h10 : Lib.TabIs Tryz.prog W "internal/strconv.uint64pow10" .u64 zs10 :=
    Lib.tabIs_of_head (rest := []) g10 t10 u301 u68 c68 c301 (h.filter fun x => x.1 == "internal/strconv.uint64pow10")
  refine ⟨?_, fun j hj => ?_, fun j hj => ?_⟩
  · have := h32.cell g32 0 (by decide)
    unfold World.cell? at this
    have hlt : 3 < W.heap.size := by
      rcases Nat.lt_or_ge 3 W.heap.size with h | h
      · exact h
      · rw [show W.heap[(⟨3, 0, none⟩ : Addr).block]? = none from Array.getElem?_eq_none h] at this
        cases this
    omega
  · have := h64.cell g64 j (by show j < 64; exact hj)
    rw [this]
    have hl : j < Lib.deBruijn64tab.length := hj
    simp [zs64, List.getD_eq_getElem?_getD, hl]
  · have := h10.cell g10 j (by show j < 20; exact hj)
    rw [this]
    simp [zs10, List.getD_eq_getElem?_getD, hj]
theorem kept_of {W W' : World} (h : Chg [] W W') (may : MemPlace → Prop) : W.keptBut W' may := by
  refine ⟨h.os, h.output, fun i hi => ?_⟩
  rw [h.same i hi (by simp)]
  cases W.heap[i]? with
  | none => rfl
  | some o =>
    cases o with
    | cells c t fr => exact ⟨rfl, rfl, rfl, fun _ _ => rfl⟩
    | map es clock => exact .inr ⟨rfl, rfl⟩
    | _ => rfl
theorem post_plain {H : Type} {enc : TypeId × Value → H} {f : Func} {s : ChangeSpec} {apart fresh handsOn again : Bool} {W W' : World} {args : Array Value} {v : Value} {ds gs : List (DataW H)}
    (hW : DataW.Whole enc Tryz.prog f.params.toList s.vars apart W args.toList ds gs [])
    (hres : ∀ (b : Nat) (sp : Nat → Bool) (hd : Bool), DataW.TrodAll enc Tryz.prog W' b sp hd f.resultTypes.toList (v.resultList f.resultTypes.size) (s.fn H (ds ++ gs)).results [])
    (hargs : ∀ sp : Nat → Bool, DataW.TrodAll enc Tryz.prog W' 0 sp true f.params.toList args.toList (s.fn H (ds ++ gs)).args [])
    (hvars : ∀ sp : Nat → Bool, DataW.TrodVars enc Tryz.prog W' sp s.vars (s.fn H (ds ++ gs)).vars [])
    (hk : Chg [] W W')
    (hok : ∀ (j : Nat) (t : TypeId) (r : Value), f.resultTypes[j]? = some t → (v.resultList f.resultTypes.size)[j]? = some r → Value.okWide Tryz.prog W' .any 0 t r) :
    s.post enc Tryz.prog f apart fresh handsOn again W args v W' := by
  refine ⟨ds, gs, [], [], [], [], hW, hres _ _ _, hargs _, hvars _, kept_of hk _, fun _ => ?_⟩
  refine ⟨hok, _, _, ([] ++ []) ++ [], ⟨[] ++ [], [], trodAll_append (hargs _) (hres _ _ _), hvars _, rfl, ?_, ?_⟩, ?_⟩
  · intro b off hp; cases hp
  · intro ha; exact List.nodup_nil
  · intro p hp _; cases hp
def setTab (l : List Value) : Obj → Obj
  | .cells _ t frozen => .cells l.toArray t frozen
  | o => o
noncomputable def laidWorld (os : Os) : World :=
  { World.holding Tryz.prog os ⟨#[], #[], []⟩ with heap := (((World.holding Tryz.prog os ⟨#[], #[], []⟩).heap.modify 0 (setTab (zs64.map fun z => Value.int .u8 z))).modify 1 (setTab (zs10.map fun z => Value.int .u64 z))).modify 3 (setTab (zs32.map fun z => Value.int .u8 z)) }
theorem laid_met (os : Os) (args : Array Value) : laidMet Tryz.prog laidL ((laidWorld os).forCall (fun _ _ => 0) ⟨#[], args, []⟩).memory :=
  laidMet_of_run' 8 (by kernel_rfl) (by kernel_rfl)
end Go.Clt
end
section
set_option linter.unusedVariables false
set_option linter.unusedSimpArgs false
namespace Go.Clt
open Go Go.RowKit Go.Proofs
section
variable {n : Nat} {e : Env} {w : World} {t : TypeId} {p : String} {af : Array Edge} {dst : Option Tmp} {g : Option (Nat × Bool)}
theorem Enters.inv {f : FuncId} {x : Operand} {nm : String} {xs : Array Operand} {ts : Array TypeId} {vs : List Value} {ty : TypeId} {v : Value} (hx : ev e x = some (.iface ty v)) (hp : evs e xs.toList = some vs)
    (hm : ∀ w, (callMethod (.iface ty v) nm vs.toArray).run P w = .ok (.enter f (#[v] ++ vs.toArray)) w) :
    Enters P n e ⟨dst, .call { callee := .invoke x nm, args := xs, argTypes := ts }, t, p, af, g⟩ w f (#[v] ++ vs.toArray) := fun a ha => by
  have h1 : (#[Value.iface ty v] ++ vs.toArray).extract 1 (#[Value.iface ty v] ++ vs.toArray).size = vs.toArray := by
    apply Array.ext'; simp
  have h2 : (#[Value.iface ty v] ++ vs.toArray)[0]? = some (.iface ty v) := by simp
  simp only [execOp, resolve, ha.ev hx, map_args ha hp, Sem.run_bind, Sem.run_pure, Result.andThen_ok, invoke]
  rw [h2, h1]
  exact hm w
end
theorem mBytes (v : Value) (w : World) : (callMethod (.iface 31 v) "Bytes" #[]).run P w = .ok (.enter 22 #[v]) w := by kernel_rfl
theorem mStates (v : Value) (w : World) : (callMethod (.iface 31 v) "States" #[]).run P w = .ok (.enter 15 #[v]) w := by kernel_rfl
theorem mMeant (v a : Value) (w : World) : (callMethod (.iface 31 v) "Meant" #[a]).run P w = .ok (.enter 18 #[v, a]) w := by kernel_rfl
theorem mNext (v a b : Value) (w : World) : (callMethod (.iface 31 v) "Next" #[a, b]).run P w = .ok (.enter 16 #[v, a, b]) w := by kernel_rfl
theorem Does.makeI {φ : World → Prop} {n : Nat} {e : Env} {t : TypeId} {p : String} {af : Array Edge} {dst : Option Tmp} {g : Option (Nat × Bool)} {ty el : TypeId} {x : Operand} {v : Value} (hu : P.underlying ty = some (.pointer el)) (hx : ev e x = some v) : Does P n e ⟨dst, .makeInterface ty x, t, p, af, g⟩ φ (.iface ty v) := fun a w ha _ => by
  simp [execOp, ha.ev hx, Instr.makeInterface, run_underlying hu]
theorem u31 : P.underlying 31 = some (.pointer 86) := by kernel_rfl
end Go.Clt
end
section
set_option linter.unusedVariables false
set_option linter.unusedSimpArgs false
set_option maxRecDepth 4000
namespace Go.Clt
open Go Go.RowKit Go.Proofs
def wmeant (l : List St) : List Int := l.map fun s => if s.meant then 1 else 0
def more1 (E : DE) (l : List St) (v : List Int) (i : Nat) (s : Int) (b : Nat) : Int := sumM [s, v.getD (dNext E l i b) 0]
def moreAt (E : DE) (l : List St) (v : List Int) (i : Nat) : Int := E.bytes.foldl (more1 E l v i) 0
def moreL (E : DE) (l : List St) (v : List Int) : List Int := (List.range l.length).map (moreAt E l v)
def cvec (E : DE) (l : List St) : Nat → List Int
  | 0 => wmeant l
  | k + 1 => moreL E l (cvec E l k)
def outI (E : DE) (l : List St) (v : List Int) (i : Nat) (s : Int) : List Int := (List.range l.length).map fun x => if x < i then moreAt E l v x else if x = i then s else 0
theorem outI_len (E : DE) (l : List St) (v : List Int) (i : Nat) (s : Int) : (outI E l v i s).length = l.length := by simp [outI]
theorem outI_get (E : DE) (l : List St) (v : List Int) (i : Nat) (s : Int) (h : i < l.length) : (outI E l v i s).getD i 0 = s := by
  simp [outI, List.getD_eq_getElem?_getD, h]
theorem outI_set (E : DE) (l : List St) (v : List Int) (i : Nat) (s s' : Int) : (outI E l v i s).set i s' = outI E l v i s' := by
  apply List.ext_getElem?
  intro j
  simp only [outI, List.getElem?_set, List.getElem?_map, List.length_map, List.length_range]
  by_cases hj : i = j
  · subst hj
    by_cases h : i < l.length
    · simp [h]
    · simp [List.getElem?_eq_none (l := List.range l.length) (i := i) (by simp; omega), h]
  · simp only [if_neg hj]
    by_cases h : j < l.length
    · simp [h, show ¬ j = i from fun h => hj h.symm]
    · simp [List.getElem?_eq_none (l := List.range l.length) (i := j) (by simp; omega)]
theorem outI_next (E : DE) (l : List St) (v : List Int) (i : Nat) : outI E l v i (moreAt E l v i) = outI E l v (i + 1) 0 := by
  unfold outI
  apply List.map_congr_left
  intro x _
  by_cases h1 : x < i
  · rw [if_pos h1, if_pos (by omega)]
  · rw [if_neg h1]
    by_cases h2 : x = i
    · rw [if_pos h2, if_pos (by omega), h2]
    · rw [if_neg h2, if_neg (by omega)]; split <;> rfl
theorem outI_zero (E : DE) (l : List St) (v : List Int) : outI E l v 0 0 = List.replicate l.length 0 := by
  unfold outI
  rw [List.eq_replicate_iff]
  refine ⟨by simp, fun x hx => ?_⟩
  obtain ⟨y, _, rfl⟩ := List.mem_map.1 hx
  rw [if_neg (by omega)]; split <;> rfl
theorem outI_all (E : DE) (l : List St) (v : List Int) : outI E l v l.length 0 = moreL E l v := by
  unfold outI moreL
  apply List.map_congr_left
  intro x hx
  rw [if_pos (List.mem_range.1 hx)]
theorem moreFold_ok (E : DE) (l : List St) (v : List Int) (i : Nat) : ∀ (r : List Nat) (s : Int), 0 ≤ s ∧ s ≤ 9223372036854775807 → 0 ≤ r.foldl (more1 E l v i) s ∧ r.foldl (more1 E l v i) s ≤ 9223372036854775807
  | [], s, h => h
  | b :: r, s, h => moreFold_ok E l v i r _ (sumM_range _)
theorem cvec_ok (E : DE) (l : List St) : ∀ k, (cvec E l k).length = l.length ∧ rangeOk (cvec E l k)
  | 0 => ⟨by simp [cvec, wmeant], fun x hx => by
      obtain ⟨s, _, rfl⟩ := List.mem_map.1 hx
      split <;> omega⟩
  | k + 1 => ⟨by simp [cvec, moreL], fun x hx => by
      obtain ⟨i, _, rfl⟩ := List.mem_map.1 hx
      exact moreFold_ok E l _ i _ 0 (by omega)⟩
def meantI (l : List St) (i : Nat) : List Int := (List.range l.length).map fun x => if x < i ∧ (l.getD x default).meant = true then 1 else 0
theorem meantI_len (l : List St) (i : Nat) : (meantI l i).length = l.length := by simp [meantI]
theorem meantI_zero (l : List St) : meantI l 0 = List.replicate l.length 0 := by
  unfold meantI
  rw [List.eq_replicate_iff]
  refine ⟨by simp, fun x hx => ?_⟩
  obtain ⟨y, _, rfl⟩ := List.mem_map.1 hx
  rw [if_neg (by omega)]
theorem meantI_all (l : List St) : meantI l l.length = wmeant l := by
  apply List.ext_getElem?
  intro j
  simp only [meantI, wmeant, List.getElem?_map]
  by_cases h : j < l.length
  · simp [h, List.getD_eq_getElem?_getD]
  · simp [List.getElem?_eq_none (l := l) (i := j) (by omega), List.getElem?_eq_none (l := List.range l.length) (i := j) (by simp; omega)]
theorem meantI_set (l : List St) (i : Nat) (h : (l.getD i default).meant = true) : (meantI l i).set i 1 = meantI l (i + 1) := by
  apply List.ext_getElem?
  intro j
  simp only [meantI, List.getElem?_set, List.getElem?_map, List.length_map, List.length_range]
  by_cases hj : i = j
  · subst hj
    by_cases hl : i < l.length
    · simp [hl, ← List.getD_eq_getElem?_getD, h]
    · simp [List.getElem?_eq_none (l := List.range l.length) (i := i) (by simp; omega), hl]
  · simp only [if_neg hj]
    by_cases hl : j < l.length
    · simp only [List.getElem?_range hl, Option.map_some]
      congr 1
      by_cases h2 : j < i
      · simp [h2, show j < i + 1 by omega]
      · simp [h2, show ¬ j < i + 1 by omega]
    · simp [List.getElem?_eq_none (l := List.range l.length) (i := j) (by simp; omega)]
theorem meantI_skip (l : List St) (i : Nat) (h : (l.getD i default).meant = false) : meantI l i = meantI l (i + 1) := by
  unfold meantI
  apply List.map_congr_left
  intro x _
  by_cases h2 : x = i
  · subst h2; rw [if_neg (by omega), if_neg (by rw [h]; simp)]
  · have : (x < i) = (x < i + 1) := propext ⟨fun _ => by omega, fun _ => by omega⟩
    simp only [this]
structure CntM (F : Nat → Prop) (w : World) (pc p : Nat) (E : DE) (l : List St) (m : Nat) (Ab : Option Addr) (cb : Nat) (Al : Option Addr) (cl : Nat) (gs : List Nat) : Prop where
  blk : Blk w pc [.iface 31 (.pointer (some ⟨p, 0, none⟩)), .slice Ab E.bytes.length cb, .slice Al m cl] 107
  fp : F pc
  rb : Rd F w 1 Ab E.bytes.length (bys E.bytes)
  rl : Rd F w 1 Al m (rowsV l.length gs)
  gl : gs.length = m
  row : ∀ i, i < m → F (gs.getD i 0) ∧ Blk w (gs.getD i 0) (ints (cvec E l i)) 3
theorem CntM.chg {F : Nat → Prop} {w w' : World} {pc p : Nat} {E : DE} {l : List St} {m : Nat} {Ab : Option Addr} {cb : Nat} {Al : Option Addr} {cl : Nat} {gs : List Nat} {S : List Nat} (h : CntM F w pc p E l m Ab cb Al cl gs) (c : Chg S w w') (hS : ∀ b ∈ S, ¬ F b) : CntM F w' pc p E l m Ab cb Al cl gs :=
  ⟨h.blk.chg c (fun hm => hS _ hm h.fp), h.fp, h.rb.chg c hS, h.rl.chg c hS, h.gl, fun i hi => ⟨(h.row i hi).1, (h.row i hi).2.chg c (fun hm => hS _ hm (h.row i hi).1)⟩⟩
theorem CntM.chg0 {F : Nat → Prop} {w w' : World} {pc p : Nat} {E : DE} {l : List St} {m : Nat} {Ab : Option Addr} {cb : Nat} {Al : Option Addr} {cl : Nat} {gs : List Nat} (h : CntM F w pc p E l m Ab cb Al cl gs) (c : Chg [] w w') : CntM F w' pc p E l m Ab cb Al cl gs := h.chg c (by simp)
def IsCnt (F : Nat → Prop) (w : World) (pc p : Nat) (E : DE) (l : List St) (m : Nat) : Prop := ∃ Ab cb Al cl gs, CntM F w pc p E l m Ab cb Al cl gs
theorem IsCnt.chg {F : Nat → Prop} {w w' : World} {pc p : Nat} {E : DE} {l : List St} {m : Nat} {S : List Nat} (h : IsCnt F w pc p E l m) (c : Chg S w w') (hS : ∀ b ∈ S, ¬ F b) : IsCnt F w' pc p E l m := by
  obtain ⟨Ab, cb, Al, cl, gs, h⟩ := h
  exact ⟨Ab, cb, Al, cl, gs, h.chg c hS⟩
theorem IsCnt.chg0 {F : Nat → Prop} {w w' : World} {pc p : Nat} {E : DE} {l : List St} {m : Nat} (h : IsCnt F w pc p E l m) (c : Chg [] w w') : IsCnt F w' pc p E l m := h.chg c (by simp)
def pickB (E : DE) (l : List St) (v : List Int) (st : Nat) : Int → List Nat → Int × Option Nat
  | k, [] => (k, none)
  | k, b :: r => if v.getD (dNext E l st b) 0 ≤ k then pickB E l v st (k - v.getD (dNext E l st b) 0) r else (k, some b)
def nthF (E : DE) (l : List St) : Nat → Nat → Int → List Nat → List Nat
  | 0, _, _, w => w
  | n + 1, st, k, w =>
    match pickB E l (cvec E l n) st k E.bytes with
    | (k', none) => nthF E l n st k' w
    | (k', some b) => nthF E l n (dNext E l st b) k' (w ++ [b])
end Go.Clt
end
section
set_option linter.unusedVariables false
set_option linter.unusedSimpArgs false
set_option maxRecDepth 4000
namespace Go.Clt
set_option maxHeartbeats 4000000
open Go Go.RowKit Go.Proofs
theorem more_c (F F2 : Nat → Prop) (pc p : Nat) (E : DE) (l : List St) (m : Nat) (Ab : Option Addr) (cb : Nat) (Al : Option Addr) (cl : Nat) (gs : List Nat) (w : World) (hFw : ∀ x, F x → x < w.heap.size) (hFw2 : ∀ x, F2 x → x < w.heap.size) (hK : CntM F w pc p E l (m + 1) Ab cb Al cl gs) (hD : IsDfa F2 w p E l) (hm : m ≤ 2000) :
    Calls P 87 #[.pointer (some ⟨pc, 0, none⟩)] w (Ret fun u w' => Chg [] w w' ∧ ∃ b, u = .slice (some ⟨b, 0, none⟩) l.length l.length ∧ w.heap.size ≤ b ∧ Blk w' b (ints (cvec E l (m + 1))) 3) := by
  have hC := Chg.refl [] w
  have hg := hD.good
  have hle := hg.le
  have hnb := hg.nb
  have hbn := hg.bl
  have hby := hg.by_
  have hco := cvec_ok E l m
  have hB0 := hK.blk
  have hBv := (hK.row m (by omega)).2
  have hpc := hFw _ hK.fp
  have hvw := hFw _ (hK.row m (by omega)).1
  have hR := hK.rb
  have hAl : ∃ g off, Al = some ⟨g, off, none⟩ := by obtain ⟨g, off, h, _⟩ := hK.rl.at_ (by omega); exact ⟨g, off, h⟩
  obtain ⟨g, off, rfl⟩ := hAl
  have hcell := (hK.rl.one (rowsV_get l.length gs m (by rw [hK.gl]; omega))).2
  have hgl := hK.gl
  obtain ⟨bv, hbv⟩ : ∃ bv, bv = gs.getD m 0 := ⟨_, rfl⟩
  rw [← hbv] at hcell hBv hvw
  have hcell2 : w.cell? ⟨g, off + (((m + 1 : Nat) : Int) - 1).toNat, none⟩ = some (.slice (some ⟨bv, 0, none⟩) l.length l.length) := by rw [show (((m + 1 : Nat) : Int) - 1).toNat = m by omega]; exact hcell
  try have hlB0 := hB0.lt
  try have hlBv := hBv.lt
  try have hlR := hR.lt
  refine enter Tryz.func87 rfl rfl ?_
  refine EW.seq ?_
  refine EW.reg ?_
  refine EP.o rfl (Does.assign rfl) ?_
  refine EP.nil ?_
  refine EW.seq ?_
  refine EW.drw' (S := []) 10 [(0, 0), (0, 1), (0, 2), (0, 3), (0, 4), (0, 5), (0, 6), (0, 7), (0, 8), (0, 9), (2, 10), (2, 11), (2, 12)] mo (by kernel_rfl) ?_
  intro w1 hx1 hh1
  have hz1 := hx1.size
  replace hC := hC.step0 hx1
  replace hD := hD.chg0 hx1
  replace hB0 := hB0.chg0 hx1
  replace hBv := hBv.chg0 hx1
  replace hR := hR.chg0 hx1
  refine EP.f rfl (Does.move rfl) ?_
  refine EP.f rfl (Does.nilCheck rfl) ?_
  refine EP.f rfl (Does.fieldAddr fl107_2 rfl) ?_
  refine EP.f rfl (Does.loadBc o25 rfl (by assumption) (by simp; done) (by rfl)) ?_
  refine EP.f rfl (Does.move rfl) ?_
  refine EP.f rfl (Does.nilCheck rfl) ?_
  refine EP.f rfl (Does.fieldAddr fl107_2 rfl) ?_
  refine EP.f rfl (Does.loadBc o25 rfl (by assumption) (by simp; done) (by rfl)) ?_
  refine EP.f rfl (Does.lenL Tryz.underlying25 rfl) ?_
  refine EP.f rfl (Does.subi rfl rfl (by omega)) ?_
  refine EP.o rfl (Does.indexAddr1 sl25 rfl rfl (by omega) (by omega)) ?_
  refine EP.o rfl (Does.load1 o24 rfl (Keeps.now _) (show World.cell? _ _ = _ from (Chg.cell (by assumption) (by simp) hcell2))) ?_
  refine EP.o rfl (Does.assign rfl) ?_
  refine EP.nil ?_
  refine EW.seq ?_
  refine EW.reg ?_
  refine EP.o rfl (Does.move rfl) ?_
  refine EP.o rfl (Does.lenL Tryz.underlying24 rfl) ?_
  refine EP.new2 rfl (News.make el24 zr3 rfl (cs := ints (List.replicate l.length 0)) (by omega) (by omega) (by show (madeCells #[_] (((l.length : Nat) : Int).toNat * 1)).toList = _; rw [Int.toNat_natCast, Nat.mul_one, made_one]; simp [ints])) ?_
  intro b2 w2 hb2 hs2 hx2 hB2
  have hz2 := hx2.size
  replace hC := hC.step0 hx2
  replace hD := hD.chg0 hx2
  replace hB0 := hB0.chg0 hx2
  replace hBv := hBv.chg0 hx2
  replace hR := hR.chg0 hx2
  refine EP.o rfl (Does.assign rfl) ?_
  refine EP.nil ?_
  refine EW.seq ?_
  refine EW.seq ?_
  refine EW.reg ?_
  have hb2w : w.heap.size ≤ b2 := by omega
  have hB2' : Blk w2 b2 (ints (outI E l (cvec E l m) 0 0)) 3 := by rw [outI_zero]; assumption
  refine EP.o rfl (Does.move rfl) ?_
  refine EP.o rfl (Does.lenL Tryz.underlying24 rfl) ?_
  refine EP.o rfl (Does.move rfl) ?_
  refine EP.nil ?_
  refine EW.block ?_
  refine EW.loop (σ := Nat) (fun i => [(0, .pointer (some ⟨pc, 0, none⟩)), (3, .slice (some ⟨bv, 0, none⟩) l.length l.length), (4, .slice (some ⟨b2, 0, none⟩) l.length l.length), (26, .int .i64 (l.length : Nat)), (27, .int .i64 i)]) (fun i wr => Chg [] w wr ∧ IsDfa F2 wr p E l ∧ Blk wr pc [.iface 31 (.pointer (some ⟨p, 0, none⟩)), .slice Ab E.bytes.length cb, .slice (some ⟨g, off, none⟩) (m + 1) cl] 107 ∧ Blk wr bv (ints (cvec E l m)) 3 ∧ Rd F wr 1 Ab E.bytes.length (bys E.bytes) ∧ Blk wr b2 (ints (outI E l (cvec E l m) i 0)) 3 ∧ i ≤ l.length) (fun i wr => l.length - i) 0 ⟨rfl, rfl, rfl, rfl, rfl, trivial⟩ ?_ ?_
  · exact ⟨hC, hD, hB0, hBv, hR, hB2', Nat.zero_le _⟩
  rintro i w9 ⟨hC, hD, hB0, hBv, hR, hBo, hi⟩
  have hlo := hBo.lt
  try have hzw := hC.size
  try have hlB0 := hB0.lt
  try have hlBv := hBv.lt
  try have hlR := hR.lt
  try have hlBo := hBo.lt
  refine EW.seq ?_
  refine EW.reg ?_
  refine EP.o rfl (Does.cmp rfl rfl rfl) ?_
  refine EP.nil ?_
  refine EW.seq ?_
  refine EW.cond rfl (fun h1 => ?_) (fun h1 => ?_)
  · try simp at h1
    have hin : i < l.length := by omega
    refine EW.skip ?_
    refine EW.seq ?_
    refine EW.block ?_
    refine EW.seq ?_
    refine EW.reg ?_
    refine EP.o rfl (Does.move rfl) ?_
    refine EP.o rfl (Does.assign rfl) ?_
    refine EP.nil ?_
    refine EW.seq ?_
    refine EW.reg ?_
    refine EP.o rfl (Does.move rfl) ?_
    refine EP.o rfl (Does.nilCheck rfl) ?_
    refine EP.o rfl (Does.fieldAddr fl107_1 rfl) ?_
    refine EP.o rfl (Does.loadB o44 rfl (Keeps.now _) (by assumption) (by rfl)) ?_
    refine EP.o rfl (Does.lenL Tryz.underlying44 rfl) ?_
    refine EP.o rfl (Does.move rfl) ?_
    refine EP.nil ?_
    refine EW.block ?_
    refine EW.loop (σ := Nat) (fun j => [(0, .pointer (some ⟨pc, 0, none⟩)), (3, .slice (some ⟨bv, 0, none⟩) l.length l.length), (4, .slice (some ⟨b2, 0, none⟩) l.length l.length), (26, .int .i64 (l.length : Nat)), (27, .int .i64 i), (5, .int .i64 i), (33, .slice Ab E.bytes.length cb), (34, .int .i64 (E.bytes.length : Nat)), (35, .int .i64 j)]) (fun j wr => Chg [] w wr ∧ IsDfa F2 wr p E l ∧ Blk wr pc [.iface 31 (.pointer (some ⟨p, 0, none⟩)), .slice Ab E.bytes.length cb, .slice (some ⟨g, off, none⟩) (m + 1) cl] 107 ∧ Blk wr bv (ints (cvec E l m)) 3 ∧ Rd F wr 1 Ab E.bytes.length (bys E.bytes) ∧ Blk wr b2 (ints (outI E l (cvec E l m) i ((E.bytes.take j).foldl (more1 E l (cvec E l m) i) 0))) 3 ∧ j ≤ E.bytes.length) (fun j wr => E.bytes.length - j) 0 ⟨rfl, rfl, rfl, rfl, rfl, rfl, rfl, rfl, rfl, trivial⟩ ?_ ?_
    · exact ⟨hC, hD, hB0, hBv, hR, hBo, Nat.zero_le _⟩
    rintro j w8 ⟨hC, hD, hB0, hBv, hR, hBo, hj⟩
    have hlo := hBo.lt
    have hlv := hBv.lt
    try have hzw := hC.size
    try have hlB0 := hB0.lt
    try have hlBv := hBv.lt
    try have hlR := hR.lt
    try have hlBo := hBo.lt
    refine EW.seq ?_
    refine EW.reg ?_
    refine EP.o rfl (Does.cmp rfl rfl rfl) ?_
    refine EP.nil ?_
    refine EW.seq ?_
    refine EW.cond rfl (fun h2 => ?_) (fun h2 => ?_)
    · try simp at h2
      have hjn : j < E.bytes.length := by omega
      have hb256 := hby _ (getD_mem E.bytes 0 j hjn)
      have hnl := dNext_lt hg hin hb256
      have hAb : ∃ g2 off2, Ab = some ⟨g2, off2, none⟩ := by obtain ⟨g, off, h, _⟩ := hR.at_ (by omega); exact ⟨g, off, h⟩
      obtain ⟨g2, off2, hA2⟩ := hAb
      have hcb := (by rw [hA2] at hR; exact (hR.one (bys_get E.bytes j hjn)).2 : w8.cell? ⟨g2, off2 + j, none⟩ = some (.int .u8 ((E.bytes.getD j 0 : Nat) : Int)))
      have hs0 := moreFold_ok E l (cvec E l m) i (E.bytes.take j) 0 (by omega)
      have hvn := hco.2.get (dNext E l i (E.bytes.getD j 0))
      have hFn : ∀ x ∈ [b2], ¬ F x := fun x hx h => by have := hFw x h; have := List.mem_singleton.1 hx; omega
      have hFn2 : ∀ x ∈ [b2], ¬ F2 x := fun x hx h => by have := hFw2 x h; have := List.mem_singleton.1 hx; omega
      subst hA2
      refine EW.skip ?_
      refine EW.seq ?_
      refine EW.block ?_
      refine EW.seq ?_
      refine EW.reg ?_
      refine EP.o rfl (Does.indexAddr1 sl44 rfl rfl (by omega) (by omega)) ?_
      refine EP.o rfl (Does.load1 o5 rfl (Keeps.now _) hcb) ?_
      refine EP.o rfl (Does.assign rfl) ?_
      refine EP.nil ?_
      refine EW.seq ?_
      refine EW.reg ?_
      refine EP.o rfl (Does.move rfl) ?_
      refine EP.o rfl (Does.nilCheck rfl) ?_
      refine EP.o rfl (Does.fieldAddr fl107_0 rfl) ?_
      refine EP.o rfl (Does.loadB o105 rfl (Keeps.now _) (by assumption) (by rfl)) ?_
      refine EP.o rfl (Does.move rfl) ?_
      refine EP.o rfl (Does.move rfl) ?_
      refine EP.call2 rfl (Enters.inv rfl rfl (mNext _ _ _)) (dnext_c F2 p E l i (E.bytes.getD j 0) hin hb256 _ hD) ?_
      rintro _ w3 ⟨rfl, hx3⟩
      have hz3 := hx3.size
      replace hC := hC.step0 hx3
      replace hD := hD.chg0 hx3
      replace hB0 := hB0.chg0 hx3
      replace hBv := hBv.chg0 hx3
      replace hR := hR.chg0 hx3
      replace hBo := hBo.chg0 hx3
      refine EP.o rfl (Does.move rfl) ?_
      refine EP.o rfl (Does.extract rfl rfl) ?_
      refine EP.o rfl (Does.extract rfl rfl) ?_
      refine EP.o rfl (Does.assign rfl) ?_
      refine EP.o rfl (Does.assign rfl) ?_
      refine EP.nil ?_
      refine EW.drw' (S := []) 12 [(0, 0), (0, 1), (0, 2), (0, 3), (0, 4), (0, 5), (0, 6), (0, 7), (0, 8), (0, 9), (1, 10), (1, 11), (2, 12), (2, 13)] mo (by kernel_rfl) ?_
      intro w4 hx4 hh4
      have hz4 := hx4.size
      replace hC := hC.step0 hx4
      replace hD := hD.chg0 hx4
      replace hB0 := hB0.chg0 hx4
      replace hBv := hBv.chg0 hx4
      replace hR := hR.chg0 hx4
      replace hBo := hBo.chg0 hx4
      have hCS4 := Chg.refl ([]) w4
      have hro := hBo.rd (F := fun _ => True) (sz := 1) (m := l.length) (by rw [ints_length, Nat.mul_one]; exact outI_len _ _ _ _ _) trivial
      have hco2 := (hro.one (ints_get (outI E l (cvec E l m) i ((E.bytes.take j).foldl (more1 E l (cvec E l m) i) 0)) i (by rw [outI_len]; exact hin))).2
      rw [outI_get _ _ _ _ _ hin] at hco2
      have hrv := hBv.rd (F := fun _ => True) (sz := 1) (m := l.length) (by rw [ints_length, Nat.mul_one]; exact hco.1) trivial
      have hcv := (hrv.one (ints_get (cvec E l m) (dNext E l i (E.bytes.getD j 0)) (by rw [hco.1]; exact hnl))).2
      refine EP.f rfl (Does.move rfl) ?_
      refine EP.f rfl (Does.move rfl) ?_
      refine EP.f rfl (Does.move rfl) ?_
      refine EP.f rfl (Does.move rfl) ?_
      refine EP.f rfl (Does.indexAddr1 sl24 rfl rfl (by omega) (by omega)) ?_
      refine EP.f rfl (Does.load1c o3 rfl hco2 (by simp; done)) ?_
      refine EP.f rfl (Does.move rfl) ?_
      refine EP.f rfl (Does.move rfl) ?_
      refine EP.f rfl (Does.indexAddr1 sl24 rfl rfl (by omega) (by omega)) ?_
      refine EP.f rfl (Does.load1c o3 rfl hcv (by simp; done)) ?_
      refine EP.new1 rfl (News.buildL sl24 Tryz.underlying24 zr3 rfl rfl rfl (by rfl)) ?_
      intro b5 w5 hb5 hs5 hx5 hB5
      have hz5 := hx5.size
      replace hC := hC.step0 hx5
      replace hD := hD.chg0 hx5
      replace hB0 := hB0.chg0 hx5
      replace hBv := hBv.chg0 hx5
      replace hR := hR.chg0 hx5
      replace hBo := hBo.chg0 hx5
      replace hCS4 := hCS4.step0 hx5
      refine ⟨hCS4, ?_⟩
      refine EP.call1 rfl (Enters.fn fb46 rfl) (addL_c [(E.bytes.take j).foldl (more1 E l (cvec E l m) i) 0, (cvec E l m).getD (dNext E l i (E.bytes.getD j 0)) 0] _ _ _ _ _ (by assumption) rfl (by intro x hx; simp only [List.mem_cons, List.not_mem_nil, or_false] at hx; rcases hx with rfl | rfl; exact hs0.2; exact hvn.2) (by simp)) ?_
      rintro _ _ ⟨rfl, rfl⟩
      refine ⟨hCS4, ?_⟩
      refine EP.o rfl (Does.indexAddr1 sl24 rfl rfl (by omega) (by omega)) ?_
      refine EP.put2 (Puts.blk (cs' := (ints (outI E l (cvec E l m) i ((E.bytes.take (j + 1)).foldl (more1 E l (cvec E l m) i) 0)))) sz3 rfl rfl hBo rfl rfl rfl (by rw [ints_length, outI_len, Nat.ble_eq]; omega) (by rw [Int.toNat_natCast, Nat.zero_add, set_cut _ _ _ (by rw [ints_length, outI_len]; exact hin), foldl_take' _ _ _ 0 j hjn, ← outI_set E l (cvec E l m) i ((E.bytes.take j).foldl (more1 E l (cvec E l m) i) 0) (more1 E l (cvec E l m) i ((E.bytes.take j).foldl (more1 E l (cvec E l m) i) 0) (E.bytes.getD j 0))]; simp [ints, List.map_set, more1])) ?_
      intro w7 hs7 hx7 hB7
      have hz7 := hx7.size
      replace hC := hC.step hx7 (by simp; omega)
      replace hD := hD.chg hx7 (by assumption)
      replace hB0 := hB0.chg hx7 (by simp; omega)
      replace hBv := hBv.chg hx7 (by simp; omega)
      replace hR := hR.chg hx7 (by assumption)
      replace hB5 := hB5.chg hx7 (by simp; omega)
      clear hBo; have hBo := hB7; clear hB7
      refine EP.nil ?_
      refine EW.reg ?_
      refine EP.o rfl (Does.addi rfl rfl (by omega)) ?_
      refine EP.o rfl (Does.move rfl) ?_
      refine EP.nil ?_
      refine ⟨j + 1, ⟨rfl, rfl, rfl, rfl, rfl, rfl, rfl, rfl, rfl, trivial⟩, ?_, ?_⟩
      exact ⟨hC, hD, hB0, hBv, hR, hBo, hjn⟩
      show E.bytes.length - (j + 1) < E.bytes.length - j
      omega
    · try simp at h2
      have hjj : j = E.bytes.length := by omega
      subst hjj
      refine EW.exit (brk_here ?_)
      refine EW.reg ?_
      refine EP.o rfl (Does.addi rfl rfl (by omega)) ?_
      refine EP.o rfl (Does.move rfl) ?_
      refine EP.nil ?_
      refine ⟨i + 1, ⟨rfl, rfl, rfl, rfl, rfl, trivial⟩, ?_, ?_⟩
      refine ⟨hC, hD, hB0, hBv, hR, ?_, hin⟩
      rw [List.take_of_length_le (Nat.le_refl _)] at hBo
      rw [← outI_next]
      exact hBo
      show l.length - (i + 1) < l.length - i
      omega
  · try simp at h1
    have hii : i = l.length := by omega
    subst hii
    refine EW.exit (brk_here ?_)
    refine EW.seq ?_
    refine EW.reg ?_
    refine EP.o rfl (Does.move rfl) ?_
    refine EP.o rfl (Does.assign rfl) ?_
    refine EP.nil ?_
    refine EW.ret ?_
    refine Fin.one rfl rfl ?_
    exact ⟨hC, b2, rfl, by omega, by rw [cvec, ← outI_all]; exact hBo⟩
end Go.Clt
end
section
set_option linter.unusedVariables false
set_option linter.unusedSimpArgs false
set_option maxRecDepth 4000
namespace Go.Clt
set_option maxHeartbeats 4000000
open Go Go.RowKit Go.Proofs
def CR (w : World) (lo : Nat) (gs : List Nat) (V : Nat → List Int) : Prop := ∀ i, i < gs.length → lo ≤ gs.getD i 0 ∧ Blk w (gs.getD i 0) (ints (V i)) 3
theorem CR.mem {w : World} {lo : Nat} {gs : List Nat} {V : Nat → List Int} (h : CR w lo gs V) {x : Nat} (hx : x ∈ gs) : lo ≤ x ∧ ∃ cs, Blk w x cs 3 := by
  obtain ⟨i, hi, rfl⟩ := List.mem_iff_getElem.1 hx
  have := h i hi
  rw [List.getD_eq_getElem?_getD, List.getElem?_eq_getElem hi] at this
  exact ⟨this.1, _, this.2⟩
theorem CR.chg {S : List Nat} {w w' : World} {lo : Nat} {gs : List Nat} {V : Nat → List Int} (h : CR w lo gs V) (k : Chg S w w') (hS : ∀ x ∈ gs, x ∉ S) : CR w' lo gs V := fun i hi => ⟨(h i hi).1, (h i hi).2.chg k (hS _ (getD_mem gs 0 i hi))⟩
theorem CR.chg0 {w w' : World} {lo : Nat} {gs : List Nat} {V : Nat → List Int} (h : CR w lo gs V) (k : Chg [] w w') : CR w' lo gs V := h.chg k (by simp)
theorem CR.snoc {w : World} {lo b : Nat} {gs : List Nat} {V : Nat → List Int} (h : CR w lo gs V) (hlo : lo ≤ b) (hb : Blk w b (ints (V gs.length)) 3) : CR w lo (gs ++ [b]) V := fun i hi => by
  simp at hi
  by_cases h2 : i < gs.length
  · rw [List.getD_eq_getElem?_getD, List.getElem?_append_left h2, ← List.getD_eq_getElem?_getD]; exact h i h2
  · have : i = gs.length := by omega
    subst this
    rw [List.getD_eq_getElem?_getD (l := gs ++ [b]), List.getElem?_append_right (Nat.le_refl _)]
    simp only [Nat.sub_self, List.getElem?_cons_zero, Option.getD_some]
    exact ⟨hlo, hb⟩
theorem CR.off {w : World} {lo lo' : Nat} {gs : List Nat} {V : Nat → List Int} (h : CR w lo gs V) {el : TypeId} {sz m c : Nat} {A : Option Addr} {cs : List Value} (ho : Own w lo' el sz A m c cs) (hne : el ≠ 3) : ∀ x ∈ gs, x ∉ blkOf A := fun x hx hm => by
  obtain ⟨_, cs', hb⟩ := h.mem hx
  exact ho.offBlk hb hne x hm (by simp)
theorem count53_c (F2 : Nat → Prop) (p : Nat) (E : DE) (l : List St) (n : Nat) (hn : n ≤ 1000) (w : World) (hFw2 : ∀ x, F2 x → x < w.heap.size) (hD : IsDfa F2 w p E l) :
    Calls P 53 #[.iface 31 (.pointer (some ⟨p, 0, none⟩)), .int .i64 (n : Nat)] w (Ret fun u w' => Chg [] w w' ∧ ∃ pc, u = .pointer (some ⟨pc, 0, none⟩) ∧ IsCnt (FR w.heap.size w'.heap.size []) w' pc p E l (n + 1)) := by
  have hC := Chg.refl [] w
  have hg := hD.good
  have hle := hg.le
  have hnb := hg.nb
  have hbn := hg.bl
  refine enter Tryz.func53 rfl rfl ?_
  refine EW.seq ?_
  refine EW.reg ?_
  refine EP.o rfl (Does.assign rfl) ?_
  refine EP.nil ?_
  refine EW.seq ?_
  refine EW.reg ?_
  refine EP.o rfl (Does.move rfl) ?_
  refine EP.o rfl (Does.move rfl) ?_
  refine EP.call2 rfl (Enters.inv rfl rfl (mBytes _)) (dbytes_c F2 p E l _ hFw2 hD) ?_
  rintro v9 w1 ⟨hx1, Ab, cb, rfl, hOy'⟩
  have hz1 := hx1.size
  replace hC := hC.step0 hx1
  replace hD := hD.chg0 hx1
  have hOy := hOy'; clear hOy'
  have hOyb := hOy.blk
  refine EP.o rfl (Does.buildSL zr107 pl107 rfl (by rfl)) ?_
  refine EP.new2 rfl (News.box rfl rfl) ?_
  intro b2 w2 hb2 hs2 hx2 hB2
  have hz2 := hx2.size
  replace hC := hC.step0 hx2
  replace hD := hD.chg0 hx2
  replace hOy := hOy.chg0 hx2
  refine EP.o rfl (Does.assign rfl) ?_
  refine EP.nil ?_
  refine EW.seq ?_
  refine EW.reg ?_
  have hpw : w.heap.size ≤ b2 := by omega
  refine EP.o rfl (Does.move rfl) ?_
  refine EP.call2 rfl (Enters.inv rfl rfl (mStates _)) (dstates_c F2 p E l _ hD) ?_
  rintro _ w3 ⟨rfl, hx3⟩
  have hz3 := hx3.size
  replace hC := hC.step0 hx3
  replace hD := hD.chg0 hx3
  replace hOy := hOy.chg0 hx3
  replace hB2 := hB2.chg0 hx3
  refine EP.new2 rfl (News.make el24 zr3 rfl (cs := ints (List.replicate l.length 0)) (by omega) (by omega) (by show (madeCells #[_] (((l.length : Nat) : Int).toNat * 1)).toList = _; rw [Int.toNat_natCast, Nat.mul_one, made_one]; simp [ints])) ?_
  intro b4 w4 hb4 hs4 hx4 hB4
  have hz4 := hx4.size
  replace hC := hC.step0 hx4
  replace hD := hD.chg0 hx4
  replace hOy := hOy.chg0 hx4
  replace hB2 := hB2.chg0 hx4
  refine EP.o rfl (Does.assign rfl) ?_
  refine EP.nil ?_
  refine EW.seq ?_
  refine EW.seq ?_
  refine EW.reg ?_
  have hm0 : Blk w4 b4 (ints (meantI l 0)) 3 := by rw [meantI_zero]; assumption
  refine EP.o rfl (Does.move rfl) ?_
  refine EP.o rfl (Does.lenL Tryz.underlying24 rfl) ?_
  refine EP.o rfl (Does.move rfl) ?_
  refine EP.nil ?_
  refine EW.block ?_
  refine EW.loop (σ := Nat) (fun i => [(0, .iface 31 (.pointer (some ⟨p, 0, none⟩))), (1, .int .i64 n), (5, .pointer (some ⟨b2, 0, none⟩)), (6, .slice (some ⟨b4, 0, none⟩) l.length l.length), (17, .int .i64 (l.length : Nat)), (18, .int .i64 i)]) (fun i wr => Chg [] w wr ∧ IsDfa F2 wr p E l ∧ Own wr w.heap.size 5 1 Ab E.bytes.length cb (bys E.bytes) ∧ Blk wr b2 [.iface 31 (.pointer (some ⟨p, 0, none⟩)), .slice Ab E.bytes.length cb, .slice none 0 0] 107 ∧ Blk wr b4 (ints (meantI l i)) 3 ∧ i ≤ l.length) (fun i wr => l.length - i) 0 ⟨rfl, rfl, rfl, rfl, rfl, rfl, trivial⟩ ?_ ?_
  · exact ⟨hC, hD, hOy, hB2, hm0, Nat.zero_le _⟩
  rintro i w9 ⟨hC, hD, hOy, hB2, hBm, hi⟩
  have hOyb := hOy.blk
  have hb2l := hB2.lt
  try have hzw := hC.size
  try have hlB2 := hB2.lt
  try have hlBm := hBm.lt
  refine EW.seq ?_
  refine EW.reg ?_
  refine EP.o rfl (Does.cmp rfl rfl rfl) ?_
  refine EP.nil ?_
  refine EW.seq ?_
  refine EW.cond rfl (fun h1 => ?_) (fun h1 => ?_)
  · try simp at h1
    have hin : i < l.length := by omega
    refine EW.skip ?_
    refine EW.seq ?_
    refine EW.block ?_
    refine EW.seq ?_
    refine EW.reg ?_
    refine EP.o rfl (Does.move rfl) ?_
    refine EP.o rfl (Does.assign rfl) ?_
    refine EP.nil ?_
    refine EW.seq ?_
    refine EW.reg ?_
    refine EP.o rfl (Does.move rfl) ?_
    refine EP.o rfl (Does.move rfl) ?_
    refine EP.call2 rfl (Enters.inv rfl rfl (mMeant _ _)) (dmeant_c F2 p E l i _ hD) ?_
    rintro _ w5 ⟨rfl, hx5⟩
    have hz5 := hx5.size
    replace hC := hC.step0 hx5
    replace hD := hD.chg0 hx5
    replace hOy := hOy.chg0 hx5
    replace hB2 := hB2.chg0 hx5
    replace hBm := hBm.chg0 hx5
    refine EP.nil ?_
    refine EW.cond rfl (fun h2 => ?_) (fun h2 => ?_)
    · try simp at h2
      have hmt : (l.getD i default).meant = true := by simpa [hin] using h2
      have hQA : ∀ x ∈ blkOf Ab, ¬ x ∈ [b4] := hOy.offBlk hBm (by decide)
      have hFn2 : ∀ x ∈ [b4], ¬ F2 x := fun x hx h => by have := hFw2 x h; have := List.mem_singleton.1 hx; omega
      refine EW.reg ?_
      refine EP.o rfl (Does.move rfl) ?_
      refine EP.o rfl (Does.move rfl) ?_
      refine EP.o rfl (Does.indexAddr1 sl24 rfl rfl (by omega) (by omega)) ?_
      refine EP.put2 (Puts.blk (cs' := (ints (meantI l (i + 1)))) sz3 rfl rfl hBm rfl rfl rfl (by rw [ints_length, meantI_len, Nat.ble_eq]; omega) (by rw [Int.toNat_natCast, Nat.zero_add, set_cut _ _ _ (by rw [ints_length, meantI_len]; exact hin), ← meantI_set l i hmt]; simp [ints, List.map_set])) ?_
      intro w6 hs6 hx6 hB6
      have hz6 := hx6.size
      replace hC := hC.step hx6 (by simp; omega)
      replace hD := hD.chg hx6 (by assumption)
      replace hOy := (by exact hOy.keep hx6 (by assumption))
      replace hB2 := hB2.chg hx6 (by simp; omega)
      clear hBm; have hBm := hB6; clear hB6
      refine EP.nil ?_
      refine EW.reg ?_
      refine EP.o rfl (Does.addi rfl rfl (by omega)) ?_
      refine EP.o rfl (Does.move rfl) ?_
      refine EP.nil ?_
      refine ⟨i + 1, ⟨rfl, rfl, rfl, rfl, rfl, rfl, trivial⟩, ?_, ?_⟩
      exact ⟨hC, hD, hOy, hB2, hBm, hin⟩
      show l.length - (i + 1) < l.length - i
      omega
    · try simp at h2
      have hmf : (l.getD i default).meant = false := by simpa [hin] using h2
      rw [meantI_skip l i hmf] at hBm
      refine EW.skip ?_
      refine EW.reg ?_
      refine EP.o rfl (Does.addi rfl rfl (by omega)) ?_
      refine EP.o rfl (Does.move rfl) ?_
      refine EP.nil ?_
      refine ⟨i + 1, ⟨rfl, rfl, rfl, rfl, rfl, rfl, trivial⟩, ?_, ?_⟩
      exact ⟨hC, hD, hOy, hB2, hBm, hin⟩
      show l.length - (i + 1) < l.length - i
      omega
  · try simp at h1
    have hii : i = l.length := by omega
    subst hii
    rw [meantI_all] at hBm
    have hFn3 : ∀ x ∈ [b2], ¬ F2 x := fun x hx h => by have := hFw2 x h; have := List.mem_singleton.1 hx; omega
    have hQA3 : ∀ x ∈ blkOf Ab, ¬ x ∈ [b2] := hOy.offBlk hB2 (by decide)
    have hO : Own w9 (b2 + 1) 24 1 none 0 0 (rowsV l.length []) := Own.nil _ _ _ _
    refine EW.exit (brk_here ?_)
    refine EW.seq ?_
    refine EW.reg ?_
    refine EP.o rfl (Does.move rfl) ?_
    refine EP.o rfl (Does.move rfl) ?_
    refine EP.o rfl (Does.nilCheck rfl) ?_
    refine EP.o rfl (Does.fieldAddr fl107_2 rfl) ?_
    refine EP.o rfl (Does.loadB o25 rfl (Keeps.now _) (by assumption) (by rfl)) ?_
    refine EP.o rfl (Does.move rfl) ?_
    refine EP.new2 rfl (News.buildL sl25 Tryz.underlying25 zr24 rfl rfl rfl (by rfl)) ?_
    intro b7 w7 hb7 hs7 hx7 hB7
    have hz7 := hx7.size
    replace hC := hC.step0 hx7
    replace hD := hD.chg0 hx7
    replace hOy := hOy.chg0 hx7
    replace hB2 := hB2.chg0 hx7
    replace hBm := hBm.chg0 hx7
    replace hO := hO.chg0 hx7
    refine EP.append2 rfl el25 rfl rfl hO (Blk.rd (F := fun _ => True) (by assumption) rfl trivial) (by rfl) (by omega) (by omega) ?_
    intro A' c' w8 hO8 hx8 hA'
    have hz8 := hx8.size
    replace hC := hC.step0 hx8
    replace hD := hD.chg0 hx8
    replace hOy := hOy.chg0 hx8
    replace hB2 := hB2.chg0 hx8
    replace hBm := hBm.chg0 hx8
    replace hB7 := hB7.chg0 hx8
    clear hO; have hO := hO8; clear hO8
    refine EP.o rfl (Does.nilCheck rfl) ?_
    refine EP.o rfl (Does.fieldAddr fl107_2 rfl) ?_
    refine EP.put2 (Puts.blk sz25 rfl rfl (by assumption) rfl rfl rfl rfl (by simp only [List.take, List.drop, List.append, List.cons_append, List.nil_append]; rfl)) ?_
    intro w9 hs9 hx9 hB9
    have hz9 := hx9.size
    replace hC := hC.step hx9 (by simp; omega)
    replace hD := hD.chg hx9 (by assumption)
    replace hOy := (by exact hOy.keep hx9 (by assumption))
    replace hBm := hBm.chg hx9 (by simp; omega)
    replace hO := (by exact hO.chg hx9 (by first | (intro x hx; simp at hx; left; omega) | (intro x hx; simp at hx; right; rw [hx]; assumption) | (intro x hx; have hx := List.mem_singleton.1 hx; right; intro h; have := hOb x (by rw [h]; exact List.mem_singleton.2 rfl); omega) | (intro x hx; have := hOb x hx; left; omega)))
    replace hB7 := hB7.chg hx9 (by simp; omega)
    clear hB2; have hB2 := hB9; clear hB9
    refine EP.nil ?_
    refine EW.seq ?_
    refine EW.seq ?_
    refine EW.reg ?_
    refine EP.o rfl (Does.move rfl) ?_
    refine EP.o rfl (Does.move rfl) ?_
    refine EP.nil ?_
    refine EW.block ?_
    refine EW.loop (σ := Nat × Option Addr × Nat × List Nat) (fun (k, A, c, gs) => [(0, .iface 31 (.pointer (some ⟨p, 0, none⟩))), (5, .pointer (some ⟨b2, 0, none⟩)), (38, .int .i64 n), (39, .int .i64 k)]) (fun (k, A, c, gs) wr => Chg [] w wr ∧ IsDfa F2 wr p E l ∧ Own wr w.heap.size 5 1 Ab E.bytes.length cb (bys E.bytes) ∧ Blk wr b2 [.iface 31 (.pointer (some ⟨p, 0, none⟩)), .slice Ab E.bytes.length cb, .slice A (k + 1) c] 107 ∧ Own wr (b2 + 1) 24 1 A (k + 1) c (rowsV l.length gs) ∧ CR wr (b2 + 1) gs (cvec E l) ∧ gs.length = k + 1 ∧ k ≤ n) (fun (k, A, c, gs) wr => n - k) (0, A', c', [b4]) ⟨rfl, rfl, rfl, rfl, trivial⟩ ?_ ?_
    · exact ⟨hC, hD, hOy, hB2, hO, fun i hi => by
        have hi0 : i = 0 := by simp at hi; omega
        subst hi0
        exact ⟨by show b2 + 1 ≤ b4; omega, hBm⟩, rfl, Nat.zero_le _⟩
    rintro ⟨k, A, c, gs⟩ w8 ⟨hC, hD, hOy, hB2, hO, hG, hgl, hk⟩
    have hb2l := hB2.lt
    try have hzw := hC.size
    try have hlB2 := hB2.lt
    refine EW.seq ?_
    refine EW.reg ?_
    refine EP.o rfl (Does.cmp rfl rfl rfl) ?_
    refine EP.nil ?_
    refine EW.seq ?_
    refine EW.cond rfl (fun h3 => ?_) (fun h3 => ?_)
    · try simp at h3
      have hkn : k < n := by omega
      have hOb := hO.blk
      have hQb := hOy.blk
      have hQA := hOy.apart hO (by decide)
      have hQA3 : ∀ x ∈ blkOf Ab, ¬ x ∈ [b2] := hOy.offBlk hB2 (by decide)
      have hGA := hG.off hO (by decide)
      have hbL : ∀ x ∈ gs, b2 < x := fun x hx => by have := (hG.mem hx).1; omega
      have hFn2 : ∀ x ∈ blkOf A, ¬ F2 x := fun x hx h => by have := hFw2 x h; have := hOb x hx; omega
      have hFn3 : ∀ x ∈ [b2], ¬ F2 x := fun x hx h => by have := hFw2 x h; have := List.mem_singleton.1 hx; omega
      have hK : CntM (fun x => x < w8.heap.size) w8 b2 p E l (k + 1) Ab cb A c gs := ⟨hB2, hb2l, hOy.rd (fun x _ h => h), hO.rd (fun x _ h => h), hgl, fun i hi => ⟨(hG i (by omega)).2.lt, (hG i (by omega)).2⟩⟩
      refine EW.skip ?_
      refine EW.seq ?_
      refine EW.block ?_
      refine EW.drw' (S := blkOf A) 9 [(0, 0), (0, 1), (0, 2), (0, 3), (0, 4), (0, 5), (1, 6), (1, 7), (1, 8), (2, 9), (2, 10), (2, 11)] mo (by kernel_rfl) ?_
      intro w10 hx10 hh10
      have hz10 := hx10.size
      replace hC := hC.step0 hx10
      replace hD := hD.chg0 hx10
      replace hOy := hOy.chg0 hx10
      replace hB2 := hB2.chg0 hx10
      replace hO := hO.chg0 hx10
      replace hG := hG.chg0 hx10
      have hCS10 := Chg.refl (blkOf A) w10
      refine EP.f rfl (Does.move rfl) ?_
      refine EP.f rfl (Does.move rfl) ?_
      refine EP.f rfl (Does.nilCheck rfl) ?_
      refine EP.f rfl (Does.fieldAddr fl107_2 rfl) ?_
      refine EP.f rfl (Does.loadBc o25 rfl (by assumption) (by intro h; have := hOb _ h; omega) (by rfl)) ?_
      refine EP.f rfl (Does.move rfl) ?_
      refine EP.call1 rfl (Enters.fn fb87 rfl) (more_c (fun x => x < w8.heap.size) F2 b2 p E l k Ab cb A c gs _ (fun x h => by omega) (fun x h => by have := hFw2 x h; omega) (hK.chg0 (by assumption)) hD (by omega)) ?_
      rintro v12 w11 ⟨hx11, br, rfl, hbr, hBr⟩
      have hz11 := hx11.size
      replace hC := hC.step0 hx11
      replace hD := hD.chg0 hx11
      replace hOy := hOy.chg0 hx11
      replace hB2 := hB2.chg0 hx11
      replace hO := hO.chg0 hx11
      replace hG := hG.chg0 hx11
      replace hCS10 := hCS10.step0 hx11
      refine ⟨hCS10, ?_⟩
      try have hlBr := hBr.lt
      refine EP.new1 rfl (News.buildL sl25 Tryz.underlying25 zr24 rfl rfl rfl (by rfl)) ?_
      intro b12 w12 hb12 hs12 hx12 hB12
      have hz12 := hx12.size
      replace hC := hC.step0 hx12
      replace hD := hD.chg0 hx12
      replace hOy := hOy.chg0 hx12
      replace hB2 := hB2.chg0 hx12
      replace hO := hO.chg0 hx12
      replace hG := hG.chg0 hx12
      replace hCS10 := hCS10.step0 hx12
      replace hBr := hBr.chg0 hx12
      refine ⟨hCS10, ?_⟩
      refine EP.append1 rfl el25 rfl rfl hO (Blk.rd (F := fun _ => True) (by assumption) rfl trivial) (by rfl) (by omega) (by omega) ?_
      intro A' c' w13 hO13 hx13 hA'
      have hz13 := hx13.size
      replace hC := hC.step hx13 (by intro x h; have := hOb x h; exact .inr (by omega))
      replace hD := hD.chg hx13 (by assumption)
      replace hOy := (by exact hOy.keep hx13 (by assumption))
      replace hB2 := hB2.chg hx13 (by intro h; have := hOb _ h; omega)
      replace hG := hG.chg hx13 (by assumption)
      replace hCS10 := hCS10.step hx13 (by exact fun x h => .inl h)
      replace hBr := hBr.chg hx13 (by intro h; have := hOb _ h; omega)
      replace hB12 := hB12.chg hx13 (by intro h; have := hOb _ h; omega)
      clear hO; have hO := hO13; clear hO13
      refine ⟨hCS10, ?_⟩
      have hAQ := hO.apart hOy (by decide)
      refine EP.o rfl (Does.nilCheck rfl) ?_
      refine EP.o rfl (Does.fieldAddr fl107_2 rfl) ?_
      refine EP.put2 (Puts.blk sz25 rfl rfl (by assumption) rfl rfl rfl rfl (by simp only [List.take, List.drop, List.append, List.cons_append, List.nil_append]; rfl)) ?_
      intro w14 hs14 hx14 hB14
      have hz14 := hx14.size
      replace hC := hC.step hx14 (by simp; omega)
      replace hD := hD.chg hx14 (by assumption)
      replace hOy := (by exact hOy.keep hx14 (by assumption))
      replace hO := (by exact hO.chg hx14 (by first | (intro x hx; simp at hx; left; omega) | (intro x hx; simp at hx; right; rw [hx]; assumption) | (intro x hx; have hx := List.mem_singleton.1 hx; right; intro h; have := hOb x (by rw [h]; exact List.mem_singleton.2 rfl); omega) | (intro x hx; have := hOb x hx; left; omega)))
      replace hG := hG.chg hx14 (by intro x hx; have h1 := hbL x hx; simp; omega)
      replace hBr := hBr.chg hx14 (by simp; omega)
      replace hB12 := hB12.chg hx14 (by simp; omega)
      clear hB2; have hB2 := hB14; clear hB14
      refine EP.nil ?_
      refine EW.reg ?_
      refine EP.o rfl (Does.addi rfl rfl (by omega)) ?_
      refine EP.o rfl (Does.move rfl) ?_
      refine EP.nil ?_
      refine ⟨(k + 1, A', c', gs ++ [br]), ⟨rfl, rfl, rfl, rfl, trivial⟩, ?_, ?_⟩
      refine ⟨hC, hD, hOy, hB2, ?_, hG.snoc (by omega) (by rw [hgl]; exact hBr), by simp [hgl], hkn⟩
      unfold rowsV
      rw [List.map_append]
      exact hO
      show n - (k + 1) < n - k
      omega
    · try simp at h3
      have hkk : k = n := by omega
      subst hkk
      refine EW.exit (brk_here ?_)
      refine EW.seq ?_
      refine EW.reg ?_
      refine EP.o rfl (Does.move rfl) ?_
      refine EP.o rfl (Does.assign rfl) ?_
      refine EP.nil ?_
      refine EW.ret ?_
      refine Fin.one rfl rfl ?_
      exact ⟨hC, b2, rfl, Ab, cb, A, c, gs, hB2, ⟨by omega, by omega, by simp⟩, hOy.rd (fun x h1 h2 => ⟨by omega, h2, by simp⟩), hO.rd (fun x h1 h2 => ⟨by omega, h2, by simp⟩), hgl, fun i hi => ⟨⟨by have := (hG i (by omega)).1; omega, (hG i (by omega)).2.lt, by simp⟩, (hG i (by omega)).2⟩⟩
end Go.Clt
end
section
set_option linter.unusedVariables false
set_option linter.unusedSimpArgs false
set_option maxRecDepth 4000
namespace Go.Clt
set_option maxHeartbeats 4000000
open Go Go.RowKit Go.Proofs
theorem nth55_c (F F2 : Nat → Prop) (pc p : Nat) (E : DE) (l : List St) (mm : Nat) (Ab : Option Addr) (cb : Nat) (Al : Option Addr) (cl : Nat) (gs : List Nat) (n : Nat) (k0 : Int) (hn : n < mm) (hn1 : n ≤ 1000) (hk0 : 0 ≤ k0 ∧ k0 ≤ 9223372036854775807) (w : World) (hFw : ∀ x, F x → x < w.heap.size) (hFw2 : ∀ x, F2 x → x < w.heap.size) (hK : CntM F w pc p E l mm Ab cb Al cl gs) (hD : IsDfa F2 w p E l) :
    Calls P 55 #[.pointer (some ⟨pc, 0, none⟩), .int .i64 (n : Nat), .int .i64 k0] w (Ret fun u w' => Chg [] w w' ∧ u = wordV (nthF E l n 0 k0 [])) := by
  have hC := Chg.refl [] w
  have hg := hD.good
  have hle := hg.le
  have hnb := hg.nb
  have hbn := hg.bl
  have hby := hg.by_
  have hpc := hFw _ hK.fp
  refine enter Tryz.func55 rfl rfl ?_
  refine EW.seq ?_
  refine EW.reg ?_
  refine EP.o rfl (Does.assign rfl) ?_
  refine EP.nil ?_
  refine EW.seq ?_
  refine EW.reg ?_
  refine EP.o rfl (Does.assign rfl) ?_
  refine EP.nil ?_
  refine EW.seq ?_
  refine EW.reg ?_
  refine EP.o rfl (Does.assign rfl) ?_
  refine EP.nil ?_
  refine EW.seq ?_
  refine EW.block ?_
  refine EW.loop (σ := Nat × Nat × Int × Option Addr × Nat × List Nat) (fun (m, st, k, A, c, ws) => [(0, .pointer (some ⟨pc, 0, none⟩)), (1, .int .i64 m), (2, .int .i64 k), (7, .int .i64 st), (8, .slice A ws.length c)]) (fun (m, st, k, A, c, ws) wr => Chg [] w wr ∧ CntM F wr pc p E l mm Ab cb Al cl gs ∧ IsDfa F2 wr p E l ∧ Own wr w.heap.size 5 1 A ws.length c (bys ws) ∧ (∀ b ∈ ws, b < 256) ∧ ws.length + m ≤ n ∧ st < l.length ∧ (0 ≤ k ∧ k ≤ 9223372036854775807) ∧ nthF E l m st k ws = nthF E l n 0 k0 []) (fun (m, st, k, A, c, ws) wr => m) (n, 0, k0, none, 0, []) ⟨rfl, rfl, rfl, rfl, rfl, trivial⟩ ?_ ?_
  · exact ⟨hC, hK, hD, Own.nil _ _ _ _, by simp, by simp, hg.pos, hk0, rfl⟩
  rintro ⟨m, st, k, A, c, ws⟩ w9 ⟨hC, hK, hD, hO, hws, hwl, hst, hk, hN⟩
  have hOb := hO.blk
  try have hzw := hC.size
  refine EW.seq ?_
  refine EW.seq ?_
  refine EW.reg ?_
  refine EP.o rfl (Does.move rfl) ?_
  refine EP.o rfl (Does.cmp rfl rfl rfl) ?_
  refine EP.nil ?_
  refine EW.cond rfl (fun h1 => ?_) (fun h1 => ?_)
  · try simp at h1
    obtain ⟨m, rfl⟩ : ∃ m', m = m' + 1 := ⟨m - 1, by omega⟩
    have hB0 := hK.blk
    have hco := cvec_ok E l m
    try have hlB0 := hB0.lt
    refine EW.skip ?_
    refine EW.seq ?_
    refine EW.block ?_
    refine EW.seq ?_
    refine EW.reg ?_
    refine EP.o rfl (Does.move rfl) ?_
    refine EP.o rfl (Does.nilCheck rfl) ?_
    refine EP.o rfl (Does.fieldAddr fl107_1 rfl) ?_
    refine EP.o rfl (Does.loadB o44 rfl (Keeps.now _) (by assumption) (by rfl)) ?_
    refine EP.o rfl (Does.lenL Tryz.underlying44 rfl) ?_
    refine EP.o rfl (Does.move rfl) ?_
    refine EP.nil ?_
    refine EW.block ?_
    refine EW.loop (σ := Nat × Int) (fun (j, k2) => [(0, .pointer (some ⟨pc, 0, none⟩)), (1, .int .i64 ((m + 1 : Nat) : Int)), (2, .int .i64 k2), (7, .int .i64 st), (8, .slice A ws.length c), (21, .slice Ab E.bytes.length cb), (22, .int .i64 (E.bytes.length : Nat)), (23, .int .i64 j)]) (fun (j, k2) wr => Chg [] w wr ∧ CntM F wr pc p E l mm Ab cb Al cl gs ∧ IsDfa F2 wr p E l ∧ Own wr w.heap.size 5 1 A ws.length c (bys ws) ∧ (0 ≤ k2 ∧ k2 ≤ 9223372036854775807) ∧ pickB E l (cvec E l m) st k2 (E.bytes.drop j) = pickB E l (cvec E l m) st k E.bytes ∧ j ≤ E.bytes.length) (fun (j, k2) wr => E.bytes.length - j) (0, k) ⟨rfl, rfl, rfl, rfl, rfl, rfl, rfl, rfl, trivial⟩ ?_ ?_
    · exact ⟨hC, hK, hD, hO, hk, rfl, Nat.zero_le _⟩
    rintro ⟨j, k2⟩ w8 ⟨hC, hK, hD, hO, hk2, hP, hj⟩
    have hOb := hO.blk
    have hB0' := hK.blk
    have hR := hK.rb
    have hBv := (hK.row m (by omega)).2
    have hAl : ∃ g off, Al = some ⟨g, off, none⟩ := by obtain ⟨g, off, h, _⟩ := hK.rl.at_ (by omega); exact ⟨g, off, h⟩
    obtain ⟨g, off, hAl⟩ := hAl
    have hcell := (by have h := hK.rl; rw [hAl] at h; exact (h.one (rowsV_get l.length gs m (by rw [hK.gl]; omega))).2 : w8.cell? ⟨g, off + m, none⟩ = some (.slice (some ⟨gs.getD m 0, 0, none⟩) l.length l.length))
    have hcell2 : w8.cell? ⟨g, off + (((m + 1 : Nat) : Int) - 1).toNat, none⟩ = some (.slice (some ⟨gs.getD m 0, 0, none⟩) l.length l.length) := by rw [show (((m + 1 : Nat) : Int) - 1).toNat = m by omega]; exact hcell
    try have hzw := hC.size
    clear hB0
    have hB0 := hB0'
    clear hB0'
    try have hlB0 := hB0.lt
    try have hlBv := hBv.lt
    try have hlR := hR.lt
    refine EW.seq ?_
    refine EW.reg ?_
    refine EP.o rfl (Does.cmp rfl rfl rfl) ?_
    refine EP.nil ?_
    refine EW.seq ?_
    refine EW.cond rfl (fun h2 => ?_) (fun h2 => ?_)
    · try simp at h2
      have hjn : j < E.bytes.length := by omega
      have hb256 := hby _ (getD_mem E.bytes 0 j hjn)
      have hnl := dNext_lt hg hst hb256
      have hAb : ∃ g2 off2, Ab = some ⟨g2, off2, none⟩ := by obtain ⟨g, off, h, _⟩ := hR.at_ (by omega); exact ⟨g, off, h⟩
      obtain ⟨g2, off2, hA2⟩ := hAb
      have hcb := (by have h := hR; rw [hA2] at h; exact (h.one (bys_get E.bytes j hjn)).2 : w8.cell? ⟨g2, off2 + j, none⟩ = some (.int .u8 ((E.bytes.getD j 0 : Nat) : Int)))
      have hdr : E.bytes.drop j = E.bytes.getD j 0 :: E.bytes.drop (j + 1) := by
        rw [List.drop_eq_getElem_cons hjn, List.getD_eq_getElem?_getD, List.getElem?_eq_getElem hjn]; rfl
      have hvn := hco.2.get (dNext E l st (E.bytes.getD j 0))
      rw [hdr, pickB] at hP
      subst hA2 hAl
      refine EW.skip ?_
      refine EW.seq ?_
      refine EW.block ?_
      refine EW.seq ?_
      refine EW.reg ?_
      refine EP.o rfl (Does.indexAddr1 sl44 rfl rfl (by omega) (by omega)) ?_
      refine EP.o rfl (Does.load1 o5 rfl (Keeps.now _) hcb) ?_
      refine EP.o rfl (Does.assign rfl) ?_
      refine EP.nil ?_
      refine EW.seq ?_
      refine EW.reg ?_
      refine EP.o rfl (Does.move rfl) ?_
      refine EP.o rfl (Does.nilCheck rfl) ?_
      refine EP.o rfl (Does.fieldAddr fl107_0 rfl) ?_
      refine EP.o rfl (Does.loadB o105 rfl (Keeps.now _) (by assumption) (by rfl)) ?_
      refine EP.o rfl (Does.move rfl) ?_
      refine EP.o rfl (Does.move rfl) ?_
      refine EP.call2 rfl (Enters.inv rfl rfl (mNext _ _ _)) (dnext_c F2 p E l st (E.bytes.getD j 0) hst hb256 _ hD) ?_
      rintro _ w1 ⟨rfl, hx1⟩
      have hz1 := hx1.size
      replace hC := hC.step0 hx1
      replace hD := hD.chg0 hx1
      replace hK := hK.chg0 hx1
      replace hO := hO.chg0 hx1
      replace hB0 := hB0.chg0 hx1
      replace hBv := hBv.chg0 hx1
      replace hR := hR.chg0 hx1
      have hrv := hBv.rd (F := fun _ => True) (sz := 1) (m := l.length) (by rw [ints_length, Nat.mul_one]; exact hco.1) trivial
      have hcv := (hrv.one (ints_get (cvec E l m) (dNext E l st (E.bytes.getD j 0)) (by rw [hco.1]; exact hnl))).2
      refine EP.o rfl (Does.move rfl) ?_
      refine EP.o rfl (Does.extract rfl rfl) ?_
      refine EP.o rfl (Does.extract rfl rfl) ?_
      refine EP.o rfl (Does.assign rfl) ?_
      refine EP.o rfl (Does.assign rfl) ?_
      refine EP.nil ?_
      refine EW.seq ?_
      refine EW.seq ?_
      refine EW.reg ?_
      refine EP.o rfl (Does.move rfl) ?_
      refine EP.o rfl (Does.nilCheck rfl) ?_
      refine EP.o rfl (Does.fieldAddr fl107_2 rfl) ?_
      refine EP.o rfl (Does.loadB o25 rfl (Keeps.now _) (by assumption) (by rfl)) ?_
      refine EP.o rfl (Does.move rfl) ?_
      refine EP.o rfl (Does.subi rfl rfl (by omega)) ?_
      refine EP.o rfl (Does.indexAddr1 sl25 rfl rfl (by omega) (by omega)) ?_
      refine EP.o rfl (Does.load1 o24 rfl (Keeps.now _) (show World.cell? _ _ = _ from (Chg.cell (by assumption) (by simp) hcell2))) ?_
      refine EP.o rfl (Does.move rfl) ?_
      refine EP.o rfl (Does.indexAddr1 sl24 rfl rfl (by omega) (by omega)) ?_
      refine EP.o rfl (Does.load1 o3 rfl (Keeps.now _) hcv) ?_
      refine EP.o rfl (Does.assign rfl) ?_
      refine EP.nil ?_
      refine EW.seq ?_
      refine EW.reg ?_
      refine EP.o rfl (Does.move rfl) ?_
      refine EP.o rfl (Does.move rfl) ?_
      refine EP.o rfl (Does.cmp rfl rfl rfl) ?_
      refine EP.nil ?_
      refine EW.cond rfl (fun h3 => ?_) (fun h3 => ?_)
      · rw [cmpB_geq] at h3
        rw [if_pos (by omega)] at hP
        refine EW.seq ?_
        refine EW.reg ?_
        refine EP.o rfl (Does.move rfl) ?_
        refine EP.o rfl (Does.move rfl) ?_
        refine EP.o rfl (Does.subi rfl rfl (by omega)) ?_
        refine EP.o rfl (Does.assign rfl) ?_
        refine EP.nil ?_
        refine EW.exit (brk_here ?_)
        refine EW.reg ?_
        refine EP.o rfl (Does.addi rfl rfl (by omega)) ?_
        refine EP.o rfl (Does.move rfl) ?_
        refine EP.nil ?_
        refine ⟨(j + 1, k2 - (cvec E l m).getD (dNext E l st (E.bytes.getD j 0)) 0), ⟨rfl, rfl, rfl, rfl, rfl, rfl, rfl, rfl, trivial⟩, ?_, ?_⟩
        exact ⟨hC, hK, hD, hO, by omega, hP, hjn⟩
        show E.bytes.length - (j + 1) < E.bytes.length - j
        omega
      · rw [cmpB_geqF] at h3
        rw [if_neg (by omega)] at hP
        have hgw := hFw _ (hK.row m (by omega)).1
        have hFn : ∀ x ∈ blkOf A, ¬ F x := fun x hx h => by have := hFw x h; have := hOb x hx; omega
        have hFn2 : ∀ x ∈ blkOf A, ¬ F2 x := fun x hx h => by have := hFw2 x h; have := hOb x hx; omega
        refine EW.skip ?_
        refine EW.seq ?_
        refine EW.reg ?_
        refine EP.o rfl (Does.move rfl) ?_
        refine EP.o rfl (Does.move rfl) ?_
        refine EP.new2 rfl (News.buildL sl44 Tryz.underlying44 zr5 rfl rfl rfl (by rfl)) ?_
        intro b2 w2 hb2 hs2 hx2 hB2
        have hz2 := hx2.size
        replace hC := hC.step0 hx2
        replace hD := hD.chg0 hx2
        replace hK := hK.chg0 hx2
        replace hO := hO.chg0 hx2
        replace hB0 := hB0.chg0 hx2
        replace hBv := hBv.chg0 hx2
        replace hR := hR.chg0 hx2
        refine EP.append2 rfl el44 rfl rfl hO (Blk.rd (F := fun _ => True) (by assumption) rfl trivial) (by rfl) (by omega) (by omega) ?_
        intro A' c' w3 hO3 hx3 hA'
        have hz3 := hx3.size
        replace hC := hC.step hx3 (by intro x h; have := hOb x h; exact .inr (by omega))
        replace hD := hD.chg hx3 (by assumption)
        replace hK := hK.chg hx3 (by assumption)
        replace hB0 := hB0.chg hx3 (by intro h; have := hOb _ h; omega)
        replace hBv := hBv.chg hx3 (by intro h; have := hOb _ h; omega)
        replace hR := hR.chg hx3 (by assumption)
        replace hB2 := hB2.chg hx3 (by intro h; have := hOb _ h; omega)
        clear hO; have hO := hO3; clear hO3
        refine EP.o rfl (Does.assign rfl) ?_
        refine EP.nil ?_
        refine EW.seq ?_
        refine EW.reg ?_
        refine EP.o rfl (Does.move rfl) ?_
        refine EP.o rfl (Does.assign rfl) ?_
        refine EP.nil ?_
        refine EW.exit (brk_past rfl (brk_here ?_))
        refine EW.reg ?_
        refine EP.o rfl (Does.move rfl) ?_
        refine EP.o rfl (Does.subi rfl rfl (by omega)) ?_
        refine EP.o rfl (Does.assign rfl) ?_
        refine EP.nil ?_
        refine ⟨(m, dNext E l st (E.bytes.getD j 0), k2, A', c', ws ++ [E.bytes.getD j 0]), ⟨rfl, (lk_int rfl (by omega)), rfl, rfl, (lk_val rfl (by rw [List.length_append]; rfl)), trivial⟩, ?_, ?_⟩
        refine ⟨hC, hK, hD, ?_, ?_, by simp; omega, hnl, hk2, ?_⟩
        rw [List.length_append, show bys (ws ++ [E.bytes.getD j 0]) = bys ws ++ bys [E.bytes.getD j 0] from by simp [bys]]
        exact hO
        intro b hb
        rcases List.mem_append.1 hb with h | h
        exact hws b h
        rw [List.mem_singleton.1 h]; exact hb256
        rw [← hN, nthF, ← hP]
        show m < m + 1
        omega
    · try simp at h2
      have hjj : j = E.bytes.length := by omega
      subst hjj
      rw [List.drop_eq_nil_of_le (Nat.le_refl _), pickB] at hP
      refine EW.exit (brk_here ?_)
      refine EW.reg ?_
      refine EP.o rfl (Does.move rfl) ?_
      refine EP.o rfl (Does.subi rfl rfl (by omega)) ?_
      refine EP.o rfl (Does.assign rfl) ?_
      refine EP.nil ?_
      refine ⟨(m, st, k2, A, c, ws), ⟨rfl, (lk_int rfl (by omega)), rfl, rfl, rfl, trivial⟩, ?_, ?_⟩
      refine ⟨hC, hK, hD, hO, hws, by omega, hst, hk2, ?_⟩
      rw [← hN, nthF, ← hP]
      show m < m + 1
      omega
  · try simp at h1
    have hm0 : m = 0 := by omega
    subst hm0
    refine EW.exit (brk_here ?_)
    refine EW.seq ?_
    refine EW.reg ?_
    refine EP.o rfl (Does.move rfl) ?_
    refine EP.o rfl (Does.toStr (l := ws) (F := fun _ => True) rfl rfl hws (hO.rd (fun _ _ _ => trivial))) ?_
    refine EP.o rfl (Does.assign rfl) ?_
    refine EP.nil ?_
    refine EW.ret ?_
    refine Fin.one rfl rfl ?_
    exact ⟨hC, by rw [← hN, nthF]⟩
end Go.Clt
end
section
set_option linter.unusedVariables false
set_option linter.unusedSimpArgs false
set_option maxRecDepth 4000
namespace Go.Clt
set_option maxHeartbeats 4000000
open Go Go.RowKit Go.Proofs
theorem wmany_c (F2 : Nat → Prop) (p : Nat) (E : DE) (l : List St) (n : Nat) (hn : n ≤ 1000) (w : World) (hFw2 : ∀ x, F2 x → x < w.heap.size) (hD : IsDfa F2 w p E l) :
    Calls P 32 #[.pointer (some ⟨p, 0, none⟩), .int .i64 (n : Nat)] w (Ret fun u w' => u = .int .i64 ((cvec E l n).getD 0 0) ∧ Chg [] w w') := by
  have hC := Chg.refl [] w
  have hg := hD.good
  have hps := hg.pos
  refine enter Tryz.func32 rfl rfl ?_
  refine EW.seq ?_
  refine EW.reg ?_
  refine EP.o rfl (Does.assign rfl) ?_
  refine EP.nil ?_
  refine EW.seq ?_
  refine EW.seq ?_
  refine EW.reg ?_
  refine EP.o rfl (Does.move rfl) ?_
  refine EP.call2 rfl (Enters.fn fb15 rfl) (dstates_c F2 p E l _ hD) ?_
  rintro _ w1 ⟨rfl, hx1⟩
  have hz1 := hx1.size
  replace hC := hC.step0 hx1
  replace hD := hD.chg0 hx1
  refine EP.o rfl (Does.cmp rfl rfl rfl) ?_
  refine EP.o rfl (Does.move rfl) ?_
  refine EP.bsplit (d := 8) rfl (fun h1 => ?_) (fun h1 => ?_)
  · try simp at h1
    all_goals first | omega | (rw [h1] at hps; simp at hps)
  · try simp at h1
    refine EP.ung rfl rfl rfl ?_
    refine EP.o rfl (Does.move rfl) ?_
    refine EP.ung rfl rfl rfl ?_
    refine EP.o rfl (Does.cmp rfl rfl rfl) ?_
    refine EP.o rfl (Does.pickF rfl rfl) ?_
    refine EP.o rfl (Does.move rfl) ?_
    refine EP.bsplit (d := 12) rfl (fun h2 => ?_) (fun h2 => ?_)
    · try simp at h2
      all_goals omega
    · try simp at h2
      refine EP.ung rfl rfl rfl ?_
      refine EP.o rfl (Does.move rfl) ?_
      refine EP.ung rfl rfl rfl ?_
      refine EP.o rfl (Does.cmp rfl rfl rfl) ?_
      refine EP.o rfl (Does.pickF rfl rfl) ?_
      refine EP.nil ?_
      refine EW.cond rfl (fun h3 => ?_) (fun h3 => ?_)
      · try simp at h3
        all_goals omega
      · try simp at h3
        refine EW.skip ?_
        refine EW.seq ?_
        refine EW.reg ?_
        refine EP.o rfl (Does.move rfl) ?_
        refine EP.o rfl (Does.makeI u31 rfl) ?_
        refine EP.o rfl (Does.move rfl) ?_
        refine EP.call2 rfl (Enters.fn fb53 rfl) (count53_c F2 p E l n hn _ (fun x h => by have := hFw2 x h; omega) hD) ?_
        rintro v9 w2 ⟨hx2, pc, rfl, Ab, cb, Al, cl, gs, hK⟩
        have hz2 := hx2.size
        replace hC := hC.step0 hx2
        replace hD := hD.chg0 hx2
        have hB0 := hK.blk
        have hAl : ∃ g off, Al = some ⟨g, off, none⟩ := by obtain ⟨g, off, h, _⟩ := hK.rl.at_ (by omega); exact ⟨g, off, h⟩
        obtain ⟨g, off, rfl⟩ := hAl
        have hcell := (hK.rl.one (rowsV_get l.length gs n (by rw [hK.gl]; omega))).2
        have hBv := (hK.row n (by omega)).2
        have hco := cvec_ok E l n
        have hrv := hBv.rd (F := fun _ => True) (sz := 1) (m := l.length) (by rw [ints_length, Nat.mul_one]; exact hco.1) trivial
        have hcv := (hrv.one (ints_get (cvec E l n) 0 (by rw [hco.1]; omega))).2
        try have hlB0 := hB0.lt
        try have hlBv := hBv.lt
        refine EP.o rfl (Does.nilCheck rfl) ?_
        refine EP.o rfl (Does.fieldAddr fl107_2 rfl) ?_
        refine EP.o rfl (Does.loadB o25 rfl (Keeps.now _) (by assumption) (by rfl)) ?_
        refine EP.o rfl (Does.move rfl) ?_
        refine EP.o rfl (Does.indexAddr1 sl25 rfl rfl (by omega) (by omega)) ?_
        refine EP.o rfl (Does.load1 o24 rfl (Keeps.now _) hcell) ?_
        refine EP.o rfl (Does.indexAddr1 sl24 rfl rfl (by omega) (by omega)) ?_
        refine EP.o rfl (Does.load1 o3 rfl (Keeps.now _) hcv) ?_
        refine EP.o rfl (Does.assign rfl) ?_
        refine EP.nil ?_
        refine EW.ret ?_
        refine Fin.one rfl rfl ?_
        exact ⟨rfl, hC⟩
theorem wmany_nil_c (n : Int) (w : World) : Calls P 32 #[.pointer none, .int .i64 n] w (Ret fun u w' => u = .int .i64 0 ∧ Chg [] w w') := by
  have hC := Chg.refl [] w
  refine enter Tryz.func32 rfl rfl ?_
  refine EW.seq ?_
  refine EW.reg ?_
  refine EP.o rfl (Does.assign rfl) ?_
  refine EP.nil ?_
  refine EW.seq ?_
  refine EW.seq ?_
  refine EW.reg ?_
  refine EP.o rfl (Does.move rfl) ?_
  refine EP.call2 rfl (Enters.fn fb15 rfl) (dstates_nil_c _) ?_
  rintro _ w1 ⟨rfl, hx1⟩
  have hz1 := hx1.size
  replace hC := hC.step0 hx1
  refine EP.o rfl (Does.cmp rfl rfl rfl) ?_
  refine EP.o rfl (Does.move rfl) ?_
  refine EP.bsplit (d := 8) rfl (fun h1 => ?_) (fun h1 => ?_)
  · try simp at h1
    refine EP.skp rfl rfl rfl rfl rfl (fun h => by cases h) ?_
    refine EP.skp rfl rfl rfl rfl rfl (fun h => by cases h) ?_
    refine EP.o rfl (Does.pickT rfl rfl) ?_
    refine EP.o rfl (Does.move rfl) ?_
    refine EP.skp rfl rfl rfl rfl rfl (fun h => by cases h) ?_
    refine EP.skp rfl rfl rfl rfl rfl (fun h => by cases h) ?_
    refine EP.o rfl (Does.pickT rfl rfl) ?_
    refine EP.nil ?_
    refine EW.condT rfl ?_
    refine EW.seq ?_
    refine EW.reg ?_
    refine EP.o rfl (Does.assign rfl) ?_
    refine EP.nil ?_
    refine EW.ret ?_
    refine Fin.one rfl rfl ?_
    exact ⟨rfl, hC⟩
  · try simp at h1
    all_goals first | omega | (cases h1) | simp at h1
theorem wnth_c (F2 : Nat → Prop) (p : Nat) (E : DE) (l : List St) (n : Nat) (hn : n ≤ 1000) (k : Int) (hk : 0 ≤ k ∧ k ≤ 9223372036854775807) (w : World) (hFw2 : ∀ x, F2 x → x < w.heap.size) (hD : IsDfa F2 w p E l) :
    Calls P 33 #[.pointer (some ⟨p, 0, none⟩), .int .i64 (n : Nat), .int .i64 k] w (Ret fun u w' => Chg [] w w' ∧ u = if (cvec E l n).getD 0 0 ≤ k then .tuple #[.string ⟨#[]⟩, .bool false] else .tuple #[wordV (nthF E l n 0 k []), .bool true]) := by
  have hC := Chg.refl [] w
  have hg := hD.good
  have hps := hg.pos
  refine enter Tryz.func33 rfl rfl ?_
  refine EW.seq ?_
  refine EW.reg ?_
  refine EP.o rfl (Does.assign rfl) ?_
  refine EP.o rfl (Does.assign rfl) ?_
  refine EP.nil ?_
  refine EW.seq ?_
  refine EW.seq ?_
  refine EW.reg ?_
  refine EP.o rfl (Does.move rfl) ?_
  refine EP.call2 rfl (Enters.fn fb15 rfl) (dstates_c F2 p E l _ hD) ?_
  rintro _ w1 ⟨rfl, hx1⟩
  have hz1 := hx1.size
  replace hC := hC.step0 hx1
  replace hD := hD.chg0 hx1
  refine EP.o rfl (Does.cmp rfl rfl rfl) ?_
  refine EP.o rfl (Does.move rfl) ?_
  refine EP.bsplit (d := 12) rfl (fun h1 => ?_) (fun h1 => ?_)
  · try simp at h1
    all_goals first | omega | (rw [h1] at hps; simp at hps)
  · try simp at h1
    refine EP.ung rfl rfl rfl ?_
    refine EP.o rfl (Does.move rfl) ?_
    refine EP.ung rfl rfl rfl ?_
    refine EP.o rfl (Does.cmp rfl rfl rfl) ?_
    refine EP.o rfl (Does.pickF rfl rfl) ?_
    refine EP.o rfl (Does.move rfl) ?_
    refine EP.bsplit (d := 16) rfl (fun h2 => ?_) (fun h2 => ?_)
    · try simp at h2
      all_goals omega
    · try simp at h2
      refine EP.ung rfl rfl rfl ?_
      refine EP.o rfl (Does.move rfl) ?_
      refine EP.ung rfl rfl rfl ?_
      refine EP.o rfl (Does.cmp rfl rfl rfl) ?_
      refine EP.o rfl (Does.pickF rfl rfl) ?_
      refine EP.o rfl (Does.move rfl) ?_
      refine EP.bsplit (d := 20) rfl (fun h3 => ?_) (fun h3 => ?_)
      · try simp at h3
        all_goals omega
      · try simp at h3
        refine EP.ung rfl rfl rfl ?_
        refine EP.o rfl (Does.move rfl) ?_
        refine EP.ung rfl rfl rfl ?_
        refine EP.o rfl (Does.cmp rfl rfl rfl) ?_
        refine EP.o rfl (Does.pickF rfl rfl) ?_
        refine EP.nil ?_
        refine EW.cond rfl (fun h4 => ?_) (fun h4 => ?_)
        · try simp at h4
          all_goals omega
        · try simp at h4
          refine EW.skip ?_
          refine EW.seq ?_
          refine EW.reg ?_
          refine EP.o rfl (Does.move rfl) ?_
          refine EP.o rfl (Does.makeI u31 rfl) ?_
          refine EP.o rfl (Does.move rfl) ?_
          refine EP.call2 rfl (Enters.fn fb53 rfl) (count53_c F2 p E l n hn _ (fun x h => by have := hFw2 x h; omega) hD) ?_
          rintro v9 w2 ⟨hx2, pc, rfl, Ab, cb, Al, cl, gs, hK⟩
          have hz2 := hx2.size
          replace hC := hC.step0 hx2
          replace hD := hD.chg0 hx2
          have hB0 := hK.blk
          have hAl : ∃ g off, Al = some ⟨g, off, none⟩ := by obtain ⟨g, off, h, _⟩ := hK.rl.at_ (by omega); exact ⟨g, off, h⟩
          obtain ⟨g, off, rfl⟩ := hAl
          have hcell := (hK.rl.one (rowsV_get l.length gs n (by rw [hK.gl]; omega))).2
          have hBv := (hK.row n (by omega)).2
          have hco := cvec_ok E l n
          have hrv := hBv.rd (F := fun _ => True) (sz := 1) (m := l.length) (by rw [ints_length, Nat.mul_one]; exact hco.1) trivial
          have hcv := (hrv.one (ints_get (cvec E l n) 0 (by rw [hco.1]; omega))).2
          try have hlB0 := hB0.lt
          try have hlBv := hBv.lt
          refine EP.o rfl (Does.assign rfl) ?_
          refine EP.nil ?_
          refine EW.seq ?_
          refine EW.seq ?_
          refine EW.reg ?_
          refine EP.o rfl (Does.move rfl) ?_
          refine EP.o rfl (Does.move rfl) ?_
          refine EP.o rfl (Does.nilCheck rfl) ?_
          refine EP.o rfl (Does.fieldAddr fl107_2 rfl) ?_
          refine EP.o rfl (Does.loadB o25 rfl (Keeps.now _) (by assumption) (by rfl)) ?_
          refine EP.o rfl (Does.move rfl) ?_
          refine EP.o rfl (Does.indexAddr1 sl25 rfl rfl (by omega) (by omega)) ?_
          refine EP.o rfl (Does.load1 o24 rfl (Keeps.now _) hcell) ?_
          refine EP.o rfl (Does.indexAddr1 sl24 rfl rfl (by omega) (by omega)) ?_
          refine EP.o rfl (Does.load1 o3 rfl (Keeps.now _) hcv) ?_
          refine EP.o rfl (Does.cmp rfl rfl rfl) ?_
          refine EP.nil ?_
          refine EW.cond rfl (fun h5 => ?_) (fun h5 => ?_)
          · rw [cmpB_geq] at h5
            refine EW.seq ?_
            refine EW.reg ?_
            refine EP.o rfl (Does.assign rfl) ?_
            refine EP.o rfl (Does.assign rfl) ?_
            refine EP.nil ?_
            refine EW.ret ?_
            refine Fin.two rfl rfl rfl ?_
            exact ⟨hC, by rw [if_pos h5]⟩
          · rw [cmpB_geqF] at h5
            refine EW.skip ?_
            refine EW.seq ?_
            refine EW.reg ?_
            refine EP.o rfl (Does.move rfl) ?_
            refine EP.o rfl (Does.move rfl) ?_
            refine EP.o rfl (Does.move rfl) ?_
            refine EP.call2 rfl (Enters.fn fb55 rfl) (nth55_c _ F2 pc p E l (n + 1) Ab cb _ cl gs n k (by omega) hn hk _ (fun x h => h.2.1) (fun x h => by have := hFw2 x h; omega) hK hD) ?_
            rintro _ w3 ⟨hx3, rfl⟩
            have hz3 := hx3.size
            replace hC := hC.step0 hx3
            replace hD := hD.chg0 hx3
            replace hB0 := hB0.chg0 hx3
            replace hBv := hBv.chg0 hx3
            refine EP.o rfl (Does.assign rfl) ?_
            refine EP.o rfl (Does.assign rfl) ?_
            refine EP.nil ?_
            refine EW.ret ?_
            refine Fin.two rfl rfl rfl ?_
            exact ⟨hC, by rw [if_neg (by omega)]⟩
theorem wnth_nil_c (n k : Int) (w : World) : Calls P 33 #[.pointer none, .int .i64 n, .int .i64 k] w (Ret fun u w' => u = .tuple #[.string ⟨#[]⟩, .bool false] ∧ Chg [] w w') := by
  have hC := Chg.refl [] w
  refine enter Tryz.func33 rfl rfl ?_
  refine EW.seq ?_
  refine EW.reg ?_
  refine EP.o rfl (Does.assign rfl) ?_
  refine EP.o rfl (Does.assign rfl) ?_
  refine EP.nil ?_
  refine EW.seq ?_
  refine EW.seq ?_
  refine EW.reg ?_
  refine EP.o rfl (Does.move rfl) ?_
  refine EP.call2 rfl (Enters.fn fb15 rfl) (dstates_nil_c _) ?_
  rintro _ w1 ⟨rfl, hx1⟩
  have hz1 := hx1.size
  replace hC := hC.step0 hx1
  refine EP.o rfl (Does.cmp rfl rfl rfl) ?_
  refine EP.o rfl (Does.move rfl) ?_
  refine EP.bsplit (d := 12) rfl (fun h1 => ?_) (fun h1 => ?_)
  · try simp at h1
    refine EP.skp rfl rfl rfl rfl rfl (fun h => by cases h) ?_
    refine EP.skp rfl rfl rfl rfl rfl (fun h => by cases h) ?_
    refine EP.o rfl (Does.pickT rfl rfl) ?_
    refine EP.o rfl (Does.move rfl) ?_
    refine EP.skp rfl rfl rfl rfl rfl (fun h => by cases h) ?_
    refine EP.skp rfl rfl rfl rfl rfl (fun h => by cases h) ?_
    refine EP.o rfl (Does.pickT rfl rfl) ?_
    refine EP.o rfl (Does.move rfl) ?_
    refine EP.skp rfl rfl rfl rfl rfl (fun h => by cases h) ?_
    refine EP.skp rfl rfl rfl rfl rfl (fun h => by cases h) ?_
    refine EP.o rfl (Does.pickT rfl rfl) ?_
    refine EP.nil ?_
    refine EW.condT rfl ?_
    refine EW.seq ?_
    refine EW.reg ?_
    refine EP.o rfl (Does.assign rfl) ?_
    refine EP.o rfl (Does.assign rfl) ?_
    refine EP.nil ?_
    refine EW.ret ?_
    refine Fin.two rfl rfl rfl ?_
    exact ⟨rfl, hC⟩
  · try simp at h1
    all_goals first | omega | (cases h1) | simp at h1
theorem wplace_nil_c (s : ByteArray) (w : World) : Calls P 34 #[.pointer none, .string s] w (Ret fun u w' => u = .tuple #[.int .i64 0, .bool false] ∧ Chg [] w w') := by
  have hC := Chg.refl [] w
  refine enter Tryz.func34 rfl rfl ?_
  refine EW.seq ?_
  refine EW.reg ?_
  refine EP.o rfl (Does.assign rfl) ?_
  refine EP.o rfl (Does.assign rfl) ?_
  refine EP.nil ?_
  refine EW.seq ?_
  refine EW.reg ?_
  refine EP.o rfl (Does.move rfl) ?_
  refine EP.o rfl (Does.lenS Tryz.underlying9 rfl) ?_
  refine EP.o rfl (Does.assign rfl) ?_
  refine EP.nil ?_
  refine EW.seq ?_
  refine EW.seq ?_
  refine EW.reg ?_
  refine EP.o rfl (Does.move rfl) ?_
  refine EP.o rfl (Does.cmp rfl rfl rfl) ?_
  refine EP.o rfl (Does.move rfl) ?_
  refine EP.bsplit (d := 20) rfl (fun h1 => ?_) (fun h1 => ?_)
  · try simp at h1
    refine EP.skp rfl rfl rfl rfl rfl (fun h => by cases h) ?_
    refine EP.skp rfl rfl rfl rfl rfl (fun h => by cases h) ?_
    refine EP.skp rfl rfl rfl rfl rfl (fun h => by cases h) ?_
    refine EP.skp rfl rfl rfl rfl rfl (fun h => by cases h) ?_
    refine EP.o rfl (Does.pickT rfl rfl) ?_
    refine EP.nil ?_
    refine EW.condT rfl ?_
    refine EW.seq ?_
    refine EW.reg ?_
    refine EP.o rfl (Does.assign rfl) ?_
    refine EP.o rfl (Does.assign rfl) ?_
    refine EP.nil ?_
    refine EW.ret ?_
    refine Fin.two rfl rfl rfl ?_
    exact ⟨rfl, hC⟩
  · try simp at h1
    refine EP.ung rfl rfl rfl ?_
    refine EP.o rfl (Does.move rfl) ?_
    refine EP.ung rfl rfl rfl ?_
    refine EP.o rfl (Does.move rfl) ?_
    refine EP.ung rfl rfl rfl ?_
    refine EP.call2 rfl (Enters.fn fb23 rfl) (dmeans_nil_c s (by omega) _) ?_
    rintro _ w1 ⟨rfl, hx1⟩
    have hz1 := hx1.size
    replace hC := hC.step0 hx1
    refine EP.ung rfl rfl rfl ?_
    refine EP.o rfl (Does.not rfl) ?_
    refine EP.o rfl (Does.pickF rfl rfl) ?_
    refine EP.nil ?_
    refine EW.condT (rfl) ?_
    refine EW.seq ?_
    refine EW.reg ?_
    refine EP.o rfl (Does.assign rfl) ?_
    refine EP.o rfl (Does.assign rfl) ?_
    refine EP.nil ?_
    refine EW.ret ?_
    refine Fin.two rfl rfl rfl ?_
    exact ⟨rfl, hC⟩
theorem wafter_nil_c (s : ByteArray) (w : World) : Calls P 35 #[.pointer none, .string s] w (Ret fun u w' => u = .tuple #[.string ⟨#[]⟩, .bool false] ∧ Chg [] w w') := by
  have hC := Chg.refl [] w
  refine enter Tryz.func35 rfl rfl ?_
  refine EW.seq ?_
  refine EW.reg ?_
  refine EP.o rfl (Does.assign rfl) ?_
  refine EP.o rfl (Does.assign rfl) ?_
  refine EP.nil ?_
  refine EW.seq ?_
  refine EW.reg ?_
  refine EP.o rfl (Does.move rfl) ?_
  refine EP.o rfl (Does.move rfl) ?_
  refine EP.call2 rfl (Enters.fn fb34 rfl) (wplace_nil_c s _) ?_
  rintro _ w1 ⟨rfl, hx1⟩
  have hz1 := hx1.size
  replace hC := hC.step0 hx1
  refine EP.o rfl (Does.move rfl) ?_
  refine EP.o rfl (Does.extract rfl rfl) ?_
  refine EP.o rfl (Does.extract rfl rfl) ?_
  refine EP.o rfl (Does.assign rfl) ?_
  refine EP.o rfl (Does.assign rfl) ?_
  refine EP.nil ?_
  refine EW.seq ?_
  refine EW.seq ?_
  refine EW.reg ?_
  refine EP.o rfl (Does.move rfl) ?_
  refine EP.o rfl (Does.not rfl) ?_
  refine EP.o rfl (Does.move rfl) ?_
  refine EP.bsplit (d := 16) rfl (fun h1 => ?_) (fun h1 => ?_)
  · try simp at h1
    refine EP.skp rfl rfl rfl rfl rfl (fun h => by cases h) ?_
    refine EP.skp rfl rfl rfl rfl rfl (fun h => by cases h) ?_
    refine EP.o rfl (Does.pickT rfl rfl) ?_
    refine EP.nil ?_
    refine EW.condT rfl ?_
    refine EW.seq ?_
    refine EW.reg ?_
    refine EP.o rfl (Does.assign rfl) ?_
    refine EP.o rfl (Does.assign rfl) ?_
    refine EP.nil ?_
    refine EW.ret ?_
    refine Fin.two rfl rfl rfl ?_
    exact ⟨rfl, hC⟩
  · try simp at h1
    all_goals first | omega | (cases h1) | simp at h1
theorem wlist_nil_c (n k : Int) (w : World) : Calls P 30 #[.pointer none, .int .i64 n, .int .i64 k] w (Ret fun u w' => u = .tuple #[.slice none 0 0, .int .i64 1] ∧ Chg [] w w') := by
  have hC := Chg.refl [] w
  refine enter Tryz.func30 rfl rfl ?_
  refine EW.seq ?_
  refine EW.reg ?_
  refine EP.o rfl (Does.assign rfl) ?_
  refine EP.o rfl (Does.assign rfl) ?_
  refine EP.nil ?_
  refine EW.seq ?_
  refine EW.seq ?_
  refine EW.reg ?_
  refine EP.o rfl (Does.move rfl) ?_
  refine EP.call2 rfl (Enters.fn fb15 rfl) (dstates_nil_c _) ?_
  rintro _ w1 ⟨rfl, hx1⟩
  have hz1 := hx1.size
  replace hC := hC.step0 hx1
  refine EP.o rfl (Does.cmp rfl rfl rfl) ?_
  refine EP.o rfl (Does.move rfl) ?_
  refine EP.bsplit (d := 13) rfl (fun h1 => ?_) (fun h1 => ?_)
  · try simp at h1
    refine EP.skp rfl rfl rfl rfl rfl (fun h => by cases h) ?_
    refine EP.skp rfl rfl rfl rfl rfl (fun h => by cases h) ?_
    refine EP.o rfl (Does.pickT rfl rfl) ?_
    refine EP.o rfl (Does.move rfl) ?_
    refine EP.skp rfl rfl rfl rfl rfl (fun h => by cases h) ?_
    refine EP.skp rfl rfl rfl rfl rfl (fun h => by cases h) ?_
    refine EP.o rfl (Does.pickT rfl rfl) ?_
    refine EP.o rfl (Does.move rfl) ?_
    refine EP.skp rfl rfl rfl rfl rfl (fun h => by cases h) ?_
    refine EP.skp rfl rfl rfl rfl rfl (fun h => by cases h) ?_
    refine EP.o rfl (Does.pickT rfl rfl) ?_
    refine EP.o rfl (Does.move rfl) ?_
    refine EP.skp rfl rfl rfl rfl rfl (fun h => by cases h) ?_
    refine EP.skp rfl rfl rfl rfl rfl (fun h => by cases h) ?_
    refine EP.o rfl (Does.pickT rfl rfl) ?_
    refine EP.nil ?_
    refine EW.condT rfl ?_
    refine EW.seq ?_
    refine EW.reg ?_
    refine EP.o rfl (Does.assign rfl) ?_
    refine EP.o rfl (Does.assign rfl) ?_
    refine EP.nil ?_
    refine EW.ret ?_
    refine Fin.two rfl rfl rfl ?_
    exact ⟨rfl, hC⟩
  · try simp at h1
    all_goals first | omega | (cases h1) | simp at h1
end Go.Clt
end
section
set_option linter.unusedVariables false
set_option linter.unusedSimpArgs false
set_option maxRecDepth 4000
namespace Go.Clt
set_option maxHeartbeats 4000000
open Go Go.RowKit Go.Proofs
theorem mB : (cvec EB lB 2).getD 0 0 = 1 := by decide +kernel
theorem nB : nthF EB lB 2 0 0 [] = [97, 98] := by decide +kernel
theorem nthB_c (p : Nat) (F : Nat → Prop) (w : World) (hF : ∀ x, F x → x < w.heap.size) (hD : IsDfa F w p EB lB) : Calls P 33 #[.pointer (some ⟨p, 0, none⟩), .int .i64 2, .int .i64 0] w (Ret fun u w' => Chg [] w w' ∧ u = .tuple #[.string ⟨#[97, 98]⟩, .bool true]) :=
  retMono (wnth_c F p EB lB 2 (by omega) 0 (by omega) w hF hD) fun _ _ ⟨hC, h⟩ => ⟨hC, by rw [h, mB, nB]; rfl⟩
theorem manyB_c (p : Nat) (F : Nat → Prop) (w : World) (hF : ∀ x, F x → x < w.heap.size) (hD : IsDfa F w p EB lB) : Calls P 32 #[.pointer (some ⟨p, 0, none⟩), .int .i64 2] w (Ret fun u w' => Chg [] w w' ∧ u = .int .i64 1) :=
  retMono (wmany_c F p EB lB 2 (by omega) w hF hD) fun _ _ ⟨h, hC⟩ => ⟨hC, by rw [h, mB]⟩
theorem awake31_c (w : World) (hL : Laid w) : Calls P 29 #[] w (Ret fun u w' => u = .bool true ∧ Chg [] w w') := by
  have hC := Chg.refl [] w
  try have hz4 := hL.sz
  refine enter Tryz.func29 rfl rfl ?_
  refine EW.seq ?_
  refine EW.reg ?_
  refine EP.o rfl (Does.assign rfl) ?_
  refine EP.nil ?_
  refine EW.seq ?_
  refine EW.reg ?_
  refine EP.call2 rfl (Enters.fn fb39 rfl) (autoB _ hL) ?_
  rintro _ w1 ⟨hx1, pa, rfl, hA⟩
  have hz1 := hx1.size
  replace hC := hC.step0 hx1
  replace hL := hL.chg0 hx1
  refine EP.o rfl (Does.move rfl) ?_
  refine EP.o rfl (Does.extract rfl rfl) ?_
  refine EP.o rfl (Does.extract rfl rfl) ?_
  refine EP.o rfl (Does.extract rfl rfl) ?_
  refine EP.o rfl (Does.assign rfl) ?_
  refine EP.o rfl (Does.assign rfl) ?_
  refine EP.o rfl (Does.assign rfl) ?_
  refine EP.nil ?_
  refine EW.seq ?_
  refine EW.reg ?_
  refine EP.o rfl (Does.move rfl) ?_
  refine EP.call2 rfl (Enters.fn fb13 rfl) (dfaB_c pa _ _ hA (fun x h => h.2.1) hL) ?_
  rintro v9 w2 ⟨hx2, pd, rfl, hD'⟩
  have hz2 := hx2.size
  replace hC := hC.step0 hx2
  replace hL := hL.chg0 hx2
  have hD := hD'; clear hD'
  refine EP.o rfl (Does.move rfl) ?_
  refine EP.o rfl (Does.extract rfl rfl) ?_
  refine EP.o rfl (Does.extract rfl rfl) ?_
  refine EP.o rfl (Does.assign rfl) ?_
  refine EP.o rfl (Does.assign rfl) ?_
  refine EP.nil ?_
  refine EW.seq ?_
  refine EW.reg ?_
  refine EP.o rfl (Does.move rfl) ?_
  refine EP.call2 rfl (Enters.fn fb33 rfl) (nthB_c pd _ _ (fun x (hx : x < w2.heap.size) => by omega) hD) ?_
  rintro _ w3 ⟨hx3, rfl⟩
  have hz3 := hx3.size
  replace hC := hC.step0 hx3
  replace hL := hL.chg0 hx3
  replace hD := hD.chg0 hx3
  refine EP.o rfl (Does.move rfl) ?_
  refine EP.o rfl (Does.extract rfl rfl) ?_
  refine EP.o rfl (Does.extract rfl rfl) ?_
  refine EP.o rfl (Does.assign rfl) ?_
  refine EP.o rfl (Does.assign rfl) ?_
  refine EP.nil ?_
  refine EW.seq ?_
  refine EW.reg ?_
  refine EP.o rfl (Does.move rfl) ?_
  refine EP.o rfl (Does.eqS rfl rfl) ?_
  refine EP.o rfl (Does.move rfl) ?_
  refine EP.bsplit (d := 25) rfl (fun h0 => ?_) (fun h0 => ?_)
  · try simp at h0
    refine EP.ung rfl rfl rfl ?_
    refine EP.o rfl (Does.move rfl) ?_
    refine EP.o rfl (Does.pickT rfl rfl) ?_
    refine EP.o rfl (Does.move rfl) ?_
    refine EP.bsplit (d := 28) rfl (fun h1 => ?_) (fun h1 => ?_)
    · try simp at h1
      refine EP.ung rfl rfl rfl ?_
      refine EP.o rfl (Does.move rfl) ?_
      refine EP.ung rfl rfl rfl ?_
      refine EP.call2 rfl (Enters.fn fb32 rfl) (manyB_c pd _ _ (fun x (hx : x < w2.heap.size) => by omega) hD) ?_
      rintro _ w4 ⟨hx4, rfl⟩
      have hz4 := hx4.size
      replace hC := hC.step0 hx4
      replace hL := hL.chg0 hx4
      replace hD := hD.chg0 hx4
      refine EP.ung rfl rfl rfl ?_
      refine EP.o rfl (Does.cmp rfl rfl rfl) ?_
      refine EP.o rfl (Does.pickT rfl rfl) ?_
      refine EP.o rfl (Does.assign rfl) ?_
      refine EP.nil ?_
      refine EW.ret ?_
      refine Fin.one rfl rfl ?_
      exact ⟨rfl, hC⟩
    · try simp at h1
      all_goals first | omega | (cases h1) | simp at h1
  · try simp at h0
    all_goals first | omega | (cases h0) | simp at h0
theorem wordsnone_c (s : ByteArray) (n k : Int) (w : World) (hL : Laid w) : Calls P 10 #[.string s, .int .i64 n, .int .i64 k] w (Ret fun u w' => u = .bool true ∧ Chg [] w w') := by
  have hC := Chg.refl [] w
  try have hz4 := hL.sz
  refine enter Tryz.func10 rfl rfl ?_
  refine EW.seq ?_
  refine EW.reg ?_
  refine EP.o rfl (Does.assign rfl) ?_
  refine EP.nil ?_
  refine EW.seq ?_
  refine EW.seq ?_
  refine EW.reg ?_
  refine EP.o rfl (Does.move rfl) ?_
  refine EP.o rfl (Does.lenS Tryz.underlying9 rfl) ?_
  refine EP.o rfl (Does.cmp rfl rfl rfl) ?_
  refine EP.nil ?_
  refine EW.cond rfl (fun h1 => ?_) (fun h1 => ?_)
  · try simp at h1
    refine EW.seq ?_
    refine EW.reg ?_
    refine EP.call2 rfl (Enters.fn fb29 rfl) (awake31_c _ hL) ?_
    rintro _ w1 ⟨rfl, hx1⟩
    have hz1 := hx1.size
    replace hC := hC.step0 hx1
    replace hL := hL.chg0 hx1
    refine EP.o rfl (Does.assign rfl) ?_
    refine EP.nil ?_
    refine EW.ret ?_
    refine Fin.one rfl rfl ?_
    exact ⟨rfl, hC⟩
  · try simp at h1
    refine EW.skip ?_
    refine EW.seq ?_
    refine EW.reg ?_
    refine EP.o rfl (Does.move rfl) ?_
    refine EP.o rfl (Does.move rfl) ?_
    refine EP.call2 rfl (Enters.fn fb30 rfl) (wlist_nil_c n k _) ?_
    rintro _ w2 ⟨rfl, hx2⟩
    have hz2 := hx2.size
    replace hC := hC.step0 hx2
    replace hL := hL.chg0 hx2
    refine EP.o rfl (Does.move rfl) ?_
    refine EP.o rfl (Does.extract rfl rfl) ?_
    refine EP.o rfl (Does.extract rfl rfl) ?_
    refine EP.o rfl (Does.assign rfl) ?_
    refine EP.o rfl (Does.assign rfl) ?_
    refine EP.nil ?_
    refine EW.seq ?_
    refine EW.reg ?_
    refine EP.o rfl (Does.move rfl) ?_
    refine EP.o rfl (Does.move rfl) ?_
    refine EP.call2 rfl (Enters.fn fb33 rfl) (wnth_nil_c n k _) ?_
    rintro _ w3 ⟨rfl, hx3⟩
    have hz3 := hx3.size
    replace hC := hC.step0 hx3
    replace hL := hL.chg0 hx3
    refine EP.o rfl (Does.move rfl) ?_
    refine EP.o rfl (Does.extract rfl rfl) ?_
    refine EP.o rfl (Does.extract rfl rfl) ?_
    refine EP.o rfl (Does.assign rfl) ?_
    refine EP.o rfl (Does.assign rfl) ?_
    refine EP.nil ?_
    refine EW.seq ?_
    refine EW.reg ?_
    refine EP.o rfl (Does.move rfl) ?_
    refine EP.call2 rfl (Enters.fn fb34 rfl) (wplace_nil_c s _) ?_
    rintro _ w4 ⟨rfl, hx4⟩
    have hz4 := hx4.size
    replace hC := hC.step0 hx4
    replace hL := hL.chg0 hx4
    refine EP.o rfl (Does.move rfl) ?_
    refine EP.o rfl (Does.extract rfl rfl) ?_
    refine EP.o rfl (Does.extract rfl rfl) ?_
    refine EP.o rfl (Does.assign rfl) ?_
    refine EP.o rfl (Does.assign rfl) ?_
    refine EP.nil ?_
    refine EW.seq ?_
    refine EW.reg ?_
    refine EP.o rfl (Does.move rfl) ?_
    refine EP.call2 rfl (Enters.fn fb35 rfl) (wafter_nil_c s _) ?_
    rintro _ w5 ⟨rfl, hx5⟩
    have hz5 := hx5.size
    replace hC := hC.step0 hx5
    replace hL := hL.chg0 hx5
    refine EP.o rfl (Does.move rfl) ?_
    refine EP.o rfl (Does.extract rfl rfl) ?_
    refine EP.o rfl (Does.extract rfl rfl) ?_
    refine EP.o rfl (Does.assign rfl) ?_
    refine EP.o rfl (Does.assign rfl) ?_
    refine EP.nil ?_
    refine EW.seq ?_
    refine EW.reg ?_
    refine EP.o rfl (Does.move rfl) ?_
    refine EP.o rfl (Does.lenL Tryz.underlying49 rfl) ?_
    refine EP.o rfl (Does.cmp rfl rfl rfl) ?_
    refine EP.o rfl (Does.move rfl) ?_
    refine EP.bsplit (d := 44) rfl (fun g1 => ?_) (fun g1 => ?_)
    · try simp at g1
      refine EP.ung rfl rfl rfl ?_
      refine EP.o rfl (Does.move rfl) ?_
      refine EP.ung rfl rfl rfl ?_
      refine EP.o rfl (Does.cmp rfl rfl rfl) ?_
      refine EP.o rfl (Does.pickT rfl rfl) ?_
      refine EP.o rfl (Does.move rfl) ?_
      refine EP.bsplit (d := 48) rfl (fun g2 => ?_) (fun g2 => ?_)
      · try simp at g2
        refine EP.ung rfl rfl rfl ?_
        refine EP.o rfl (Does.move rfl) ?_
        refine EP.ung rfl rfl rfl ?_
        refine EP.o rfl (Does.not rfl) ?_
        refine EP.o rfl (Does.pickT rfl rfl) ?_
        refine EP.o rfl (Does.move rfl) ?_
        refine EP.bsplit (d := 52) rfl (fun g3 => ?_) (fun g3 => ?_)
        · try simp at g3
          refine EP.ung rfl rfl rfl ?_
          refine EP.o rfl (Does.move rfl) ?_
          refine EP.ung rfl rfl rfl ?_
          refine EP.o rfl (Does.not rfl) ?_
          refine EP.o rfl (Does.pickT rfl rfl) ?_
          refine EP.o rfl (Does.move rfl) ?_
          refine EP.bsplit (d := 56) rfl (fun g4 => ?_) (fun g4 => ?_)
          · try simp at g4
            refine EP.ung rfl rfl rfl ?_
            refine EP.o rfl (Does.move rfl) ?_
            refine EP.ung rfl rfl rfl ?_
            refine EP.o rfl (Does.not rfl) ?_
            refine EP.o rfl (Does.pickT rfl rfl) ?_
            refine EP.o rfl (Does.move rfl) ?_
            refine EP.bsplit (d := 60) rfl (fun g5 => ?_) (fun g5 => ?_)
            · try simp at g5
              refine EP.ung rfl rfl rfl ?_
              refine EP.o rfl (Does.move rfl) ?_
              refine EP.ung rfl rfl rfl ?_
              refine EP.call2 rfl (Enters.fn fb32 rfl) (wmany_nil_c n _) ?_
              rintro _ w6 ⟨rfl, hx6⟩
              have hz6 := hx6.size
              replace hC := hC.step0 hx6
              replace hL := hL.chg0 hx6
              refine EP.ung rfl rfl rfl ?_
              refine EP.o rfl (Does.cmp rfl rfl rfl) ?_
              refine EP.o rfl (Does.pickT rfl rfl) ?_
              refine EP.o rfl (Does.move rfl) ?_
              refine EP.bsplit (d := 65) rfl (fun g6 => ?_) (fun g6 => ?_)
              · try simp at g6
                refine EP.ung rfl rfl rfl ?_
                refine EP.call2 rfl (Enters.fn fb29 rfl) (awake31_c _ hL) ?_
                rintro _ w7 ⟨rfl, hx7⟩
                have hz7 := hx7.size
                replace hC := hC.step0 hx7
                replace hL := hL.chg0 hx7
                refine EP.o rfl (Does.pickT rfl rfl) ?_
                refine EP.o rfl (Does.assign rfl) ?_
                refine EP.nil ?_
                refine EW.ret ?_
                refine Fin.one rfl rfl ?_
                exact ⟨rfl, hC⟩
              · try simp at g6
                all_goals first | omega | (cases g6) | (simp at g6)
            · try simp at g5
              all_goals first | omega | (cases g5) | (simp at g5)
          · try simp at g4
            all_goals first | omega | (cases g4) | (simp at g4)
        · try simp at g3
          all_goals first | omega | (cases g3) | (simp at g3)
      · try simp at g2
        all_goals first | omega | (cases g2) | (simp at g2)
    · try simp at g1
      all_goals first | omega | (cases g1) | (simp at g1)
end Go.Clt
end
