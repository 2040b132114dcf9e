import Derived.Test.YtckdapbopihofaaGreatDoorDs8
import Derived.Test.YtckdapbopihofaaGreatDoorDsB
import Derived.Test.YtckdapbopihofaaGreatDoorDsC
import Derived.Test.YtckdapbopihofaaGreatDoorDsD
/- All states, in order, each by its word, where they lead, which are meant; or that there are more than the budget (DfaStates). Conditions: none beyond the statement's own. A part of that proof: RowStates. Conditions: none beyond the statement's own. By an AI agent; no person has read it. -/
set_option linter.unusedVariables false
set_option linter.unusedSimpArgs false
section
set_option maxRecDepth 100000
namespace Go.Proofs.YtckdapbopihofaaGreatDoor.DfaStates
open Go Go.RowKit Go.Proofs Go.ChangeShapes Go.WideShapes Go.ChangeAt Go.Clt Go.WideMaps
theorem parms : Tryz.f5.params = #[9, 3, 3] := by kernel_rfl
theorem contract (H : Type) (enc : TypeId × Value → H) (W : World) (base : Nat) (args : Array Value) (ds gs : List (DataW H)) (before : List MemPlace)
  (hval : ∀ (j : Nat) t v, Tryz.f5.params[j]? = some t → args[j]? = some v → Value.okWide Tryz.prog W .any base t v)
  (hW : DataW.Whole enc Tryz.prog Tryz.f5.params.toList Rows.dfaStatesSpec.vars false W args.toList ds gs before) (hL : laidMetH Tryz.prog Rows.dfaStatesRow.laid W) :
  Calls Tryz.prog 5 args W fun e W' => ∃ v, e = .returned v ∧ Rows.dfaStatesSpec.post enc Tryz.prog Tryz.f5 false true false false W args v W' := by
 have hW' := hW
 obtain ⟨p, q, hA0, hV, rfl, hfz, hnd⟩ := hW
 have hA : DataW.TrodAll enc Tryz.prog W 0 (fun _ => true) true Tryz.f5.params.toList args.toList ds p := hA0
 rw [parms] at hA hval
 obtain ⟨v0, vs0, d0, ds0, p0, q0, hargs, rfl, rfl, h0, r0⟩ := trodAll_cons hA
 obtain ⟨v1, vs1, d1, ds1, p1, q1, rfl, rfl, rfl, h1, r1⟩ := trodAll_cons r0
 obtain ⟨v2, vs2, d2, ds2, p2, q2, rfl, rfl, rfl, h2, r2⟩ := trodAll_cons r1
 obtain ⟨rfl, rfl, rfl⟩ := trodAll_nil r2
 obtain rfl : args = #[v0, v1, v2] := by cases args; simp_all
 obtain ⟨rfl, rfl⟩ := trodVars_none hV
 obtain ⟨x0, rfl, rfl, rfl, hw0⟩ := Go.ChangeMaps.open_string u9 (hval 0 9 v0 rfl rfl) h0
 obtain ⟨x1, rfl, rfl, rfl, hw1⟩ := open_int u3 (hval 1 3 v1 rfl rfl) h1
 obtain ⟨x2, rfl, rfl, rfl, hw2⟩ := open_int u3 (hval 2 3 v2 rfl rfl) h2
 clear hA0
 simp only [Eo9] at hW'
 have hLd := laid_of hL
 refine (Cv9 x0 x1 x2 W hLd).mono fun e W' he => ?_
 cases e with
 | panicked c => exact he.elim
 | outgrown => exact he.elim
 | returned v =>
  obtain ⟨rfl, hC⟩ := he
  exact ⟨_, rfl, Dj4 hW' (fun _ _ _ => trodAll_cons_mk (shut_bool u4 _) trodAll_mk0)
   (fun _ => trodAll_cons_mk (Go.ChangeMaps.shut_string u9 hw0) (trodAll_cons_mk (shut_int u3 hw1) (trodAll_cons_mk (shut_int u3 hw2) trodAll_mk0))) (fun _ => rfl) hC (ok_one (by kernel_rfl) rfl (okWide_bool_mk u4 _))⟩
theorem reads (os : Os) {H : Type} (enc : TypeId × Value → H) : ∃ places, DataW.whole enc Tryz.prog ((laidWorld os).forCall (fun _ _ => 0) ⟨#[], #[.string ⟨#[]⟩, .int .i64 0, .int .i64 0], []⟩).memory Tryz.f5.params.toList Rows.dfaStatesSpec.vars false #[Value.string ⟨#[]⟩, .int .i64 0, .int .i64 0].toList 8 = some ([.lit (.string []), .lit (.int .i64 0), .lit (.int .i64 0)], [], places) :=
 ⟨[], by kernel_rfl⟩
theorem lifted (os : Os) (started : os.Started) (H : Type) (enc : TypeId × Value → H) (F : Stop.Interp) :
  ReturnsInHanded {} Tryz.checked os 5 .any ((OpenSpec.ofChange Rows.dfaStatesSpec).preRow enc Tryz.prog Tryz.f5 Rows.dfaStatesRow.domain false Rows.dfaStatesRow.laid) (((OpenSpec.ofChange Rows.dfaStatesSpec).at F).post enc Tryz.prog Tryz.f5 false true false false) := by
 obtain ⟨places, hx⟩ := reads os enc
 refine returnsInHanded_of_row (C := Tryz.checked) (s := OpenSpec.ofChange Rows.dfaStatesSpec) own0 started (by kernel_rfl) Tryz.func5
  (witness_row_at (enc := enc) (C := Tryz.checked) false (laidWorld os) #[.string ⟨#[]⟩, .int .i64 0, .int .i64 0] rfl (by kernel_rfl) (by kernel_rfl) (by kernel_rfl)
   (OpenSpec.preRow_of_cond 8 hx (by kernel_rfl) (fun k hk => by cases hk) (by kernel_rfl) (laid_met os _))) ?_
 intro W base args ds gs before hval hW _ _ _ hL _ _
 exact contract H enc W base args ds gs before hval hW hL
theorem closed : joinedFacts Tryz.pinned.checked.prog 5 Tryz.f5 (OpenSpec.ofChange Rows.dfaStatesSpec).bare Rows.dfaStatesRow = true := by
 have b := fB
 have c := fC
 have d := fD
 simp only [Bool.and_eq_true] at b c d
 unfold joinedFacts
 rw [c.1, c.2, b.1.1.1, b.1.1.2, b.1.2, b.2, d.1.1.1, d.1.1.2, d.1.2, d.2]
 show _ = true
 kernel_rfl
theorem said : Rows.DfaStatesSaid :=
 OpenClaim.holds_of_cond 5 Tryz.f5 rfl rfl rfl rfl rfl rfl rfl ⟨rfl, rfl, rfl, rfl, rfl⟩ rfl rfl rfl rfl rfl (by kernel_rfl) Tryz.func5 closed
  (Em3 (by kernel_rfl)) (by unfold Func.isWrapper; first | (rw [Ei4 (by decide +kernel)]; kernel_rfl) | (rw [Ei3 (by decide +kernel)]; exact ⟨rfl, rfl⟩))
  (fun os started H enc _ F => by rw [OpenClaim.pre_eq_preRow]; exact lifted os started H enc F)
end Go.Proofs.YtckdapbopihofaaGreatDoor.DfaStates
end
