import Derived.Test.YtckdapbopihofaaGreatDoorMn8
import Derived.Test.YtckdapbopihofaaGreatDoorMnB
import Derived.Test.YtckdapbopihofaaGreatDoorMnC
import Derived.Test.YtckdapbopihofaaGreatDoorMnD
/- On any word: whether it is meant, as the ways tell; a dead state means no word that goes on (DfaMeans). Conditions: none beyond the statement's own. A part of that proof: RowMeans. Conditions: none beyond the statement's own. By an AI agent; no person has read it. -/
set_option linter.unusedVariables false
set_option linter.unusedSimpArgs false
section
set_option maxRecDepth 100000
namespace Go.Proofs.YtckdapbopihofaaGreatDoor.DfaMeans
open Go Go.RowKit Go.Proofs Go.ChangeShapes Go.WideShapes Go.ChangeAt Go.Clt Go.WideMaps
theorem parms : Tryz.f4.params = #[9, 3, 9, 9] := by kernel_rfl
theorem contract (H : Type) (enc : TypeId × Value → H) (W : World) (base : Nat) (args : Array Value) (ds gs : List (DataW H)) (before : List MemPlace)
  (hval : ∀ (j : Nat) t v, Tryz.f4.params[j]? = some t → args[j]? = some v → Value.okWide Tryz.prog W .any base t v)
  (hW : DataW.Whole enc Tryz.prog Tryz.f4.params.toList Rows.dfaMeansSpec.vars false W args.toList ds gs before) (hL : laidMetH Tryz.prog Rows.dfaMeansRow.laid W) :
  Calls Tryz.prog 4 args W fun e W' => ∃ v, e = .returned v ∧ Rows.dfaMeansSpec.post enc Tryz.prog Tryz.f4 false true false false W args v W' := by
 have hW' := hW
 obtain ⟨p, q, hA0, hV, rfl, hfz, hnd⟩ := hW
 have hA : DataW.TrodAll enc Tryz.prog W 0 (fun _ => true) true Tryz.f4.params.toList args.toList ds p := hA0
 rw [parms] at hA hval
 obtain ⟨v0, vs0, d0, ds0, p0, q0, hargs, rfl, rfl, h0, r0⟩ := trodAll_cons hA
 obtain ⟨v1, vs1, d1, ds1, p1, q1, rfl, rfl, rfl, h1, r1⟩ := trodAll_cons r0
 obtain ⟨v2, vs2, d2, ds2, p2, q2, rfl, rfl, rfl, h2, r2⟩ := trodAll_cons r1
 obtain ⟨v3, vs3, d3, ds3, p3, q3, rfl, rfl, rfl, h3, r3⟩ := trodAll_cons r2
 obtain ⟨rfl, rfl, rfl⟩ := trodAll_nil r3
 obtain rfl : args = #[v0, v1, v2, v3] := by cases args; simp_all
 obtain ⟨rfl, rfl⟩ := trodVars_none hV
 obtain ⟨x0, rfl, rfl, rfl, hw0⟩ := Go.ChangeMaps.open_string u9 (hval 0 9 v0 rfl rfl) h0
 obtain ⟨x1, rfl, rfl, rfl, hw1⟩ := open_int u3 (hval 1 3 v1 rfl rfl) h1
 obtain ⟨x2, rfl, rfl, rfl, hw2⟩ := Go.ChangeMaps.open_string u9 (hval 2 9 v2 rfl rfl) h2
 obtain ⟨x3, rfl, rfl, rfl, hw3⟩ := Go.ChangeMaps.open_string u9 (hval 3 9 v3 rfl rfl) h3
 clear hA0
 simp only [Em9] at hW'
 have hLd := laid_of hL
 refine (Dl5 x0 x1 x2 x3 W hLd).mono fun e W' he => ?_
 cases e with
 | panicked c => exact he.elim
 | outgrown => exact he.elim
 | returned v =>
  obtain ⟨rfl, hC⟩ := he
  exact ⟨_, rfl, Dh7 hW' (fun _ _ _ => trodAll_cons_mk (shut_bool u4 _) trodAll_mk0)
   (fun _ => trodAll_cons_mk (Go.ChangeMaps.shut_string u9 hw0) (trodAll_cons_mk (shut_int u3 hw1) (trodAll_cons_mk (Go.ChangeMaps.shut_string u9 hw2) (trodAll_cons_mk (Go.ChangeMaps.shut_string u9 hw3) trodAll_mk0)))) (fun _ => rfl) hC (ok_one (by kernel_rfl) rfl (okWide_bool_mk u4 _))⟩
theorem reads (os : Os) {H : Type} (enc : TypeId × Value → H) : ∃ places, DataW.whole enc Tryz.prog ((laidWorld os).forCall (fun _ _ => 0) ⟨#[], #[.string ⟨#[]⟩, .int .i64 0, .string ⟨#[]⟩, .string ⟨#[]⟩], []⟩).memory Tryz.f4.params.toList Rows.dfaMeansSpec.vars false #[Value.string ⟨#[]⟩, .int .i64 0, .string ⟨#[]⟩, .string ⟨#[]⟩].toList 8 = some ([.lit (.string []), .lit (.int .i64 0), .lit (.string []), .lit (.string [])], [], places) :=
 ⟨[], by kernel_rfl⟩
theorem lifted (os : Os) (started : os.Started) (H : Type) (enc : TypeId × Value → H) (F : Stop.Interp) :
  ReturnsInHanded {} Tryz.checked os 4 .any ((OpenSpec.ofChange Rows.dfaMeansSpec).preRow enc Tryz.prog Tryz.f4 Rows.dfaMeansRow.domain false Rows.dfaMeansRow.laid) (((OpenSpec.ofChange Rows.dfaMeansSpec).at F).post enc Tryz.prog Tryz.f4 false true false false) := by
 obtain ⟨places, hx⟩ := reads os enc
 refine returnsInHanded_of_row (C := Tryz.checked) (s := OpenSpec.ofChange Rows.dfaMeansSpec) own0 started (by kernel_rfl) Tryz.func4
  (witness_row_at (enc := enc) (C := Tryz.checked) false (laidWorld os) #[.string ⟨#[]⟩, .int .i64 0, .string ⟨#[]⟩, .string ⟨#[]⟩] rfl (by kernel_rfl) (by kernel_rfl) (by kernel_rfl)
   (OpenSpec.preRow_of_cond 8 hx (by kernel_rfl) (fun k hk => by cases hk) (by kernel_rfl) (laid_met os _))) ?_
 intro W base args ds gs before hval hW _ _ _ hL _ _
 exact contract H enc W base args ds gs before hval hW hL
theorem closed : joinedFacts Tryz.pinned.checked.prog 4 Tryz.f4 (OpenSpec.ofChange Rows.dfaMeansSpec).bare Rows.dfaMeansRow = true := by
 have b := fB
 have c := fC
 have d := fD
 simp only [Bool.and_eq_true] at b c d
 unfold joinedFacts
 rw [c.1, c.2, b.1.1.1, b.1.1.2, b.1.2, b.2, d.1.1.1, d.1.1.2, d.1.2, d.2]
 show _ = true
 kernel_rfl
theorem said : Rows.DfaMeansSaid :=
 OpenClaim.holds_of_cond 4 Tryz.f4 rfl rfl rfl rfl rfl rfl rfl ⟨rfl, rfl, rfl, rfl, rfl⟩ rfl rfl rfl rfl rfl (by kernel_rfl) Tryz.func4 closed
  (El4 (by kernel_rfl)) (by unfold Func.isWrapper; first | (rw [Eg7 (by decide +kernel)]; kernel_rfl) | (rw [Eg6 (by decide +kernel)]; exact ⟨rfl, rfl⟩))
  (fun os started H enc _ F => by rw [OpenClaim.pre_eq_preRow]; exact lifted os started H enc F)
end Go.Proofs.YtckdapbopihofaaGreatDoor.DfaMeans
end
