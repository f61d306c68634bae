/- Any bytes that are refused change nothing but the number of refusals: for every key, bytes, address and time, true; the arguments read as before. -/
import Derived.Test.YtdcophmboncacaaGreatDoorBase8
import Derived.Test.YtdcophmboncacaaGreatDoorCards
import Derived.Test.YtdcophmboncacaaGreatDoorTie
set_option linter.unusedVariables false
set_option linter.unusedSimpArgs false
set_option linter.unnecessarySimpa false
namespace Go.Proofs.YtdcophmboncacaaGreatDoor.sessionRefusesP
open Go Go.ChangeShapes Go.WideShapes Go.ChangeAt Go.RowKit Go.Deep Go.X
theorem own : ownKnob Tryz.prog.godebug = none := by kernel_rfl
theorem laidOut : laidOutB Tryz.prog = true := by kernel_rfl
theorem gTab : Tryz.prog.globalNamed "math/bits.deBruijn64tab" = some 1 := by kernel_rfl
theorem gTabType : (Tryz.prog.globals[1]?).map (·.type) = some 283 := by kernel_rfl
theorem cellsGT : Tryz.prog.cellsOf 283 = 64 := by kernel_rfl
theorem cells5 : Tryz.prog.cellsOf 5 = 1 := by kernel_rfl
theorem rr9 : Tryz.prog.readableRec 9 = true ∧ 9 < Tryz.prog.types.size := ⟨by kernel_rfl, of_decide_eq_true (by kernel_rfl)⟩
theorem rr22 : Tryz.prog.readableRec 22 = true ∧ 22 < Tryz.prog.types.size := ⟨by kernel_rfl, of_decide_eq_true (by kernel_rfl)⟩
theorem rr24 : Tryz.prog.readableRec 24 = true ∧ 24 < Tryz.prog.types.size := ⟨by kernel_rfl, of_decide_eq_true (by kernel_rfl)⟩
theorem rr30 : Tryz.prog.readableRec 30 = true ∧ 30 < Tryz.prog.types.size := ⟨by kernel_rfl, of_decide_eq_true (by kernel_rfl)⟩
theorem ws9 : Tryz.prog.wantsStandIn 9 = false := by kernel_rfl
theorem ws22 : Tryz.prog.wantsStandIn 22 = false := by kernel_rfl
theorem ws24 : Tryz.prog.wantsStandIn 24 = false := by kernel_rfl
theorem ws30 : Tryz.prog.wantsStandIn 30 = false := by kernel_rfl
theorem cells22 : Tryz.prog.cellsOf 22 = 16 := by kernel_rfl
theorem reads : ∀ t ∈ Tryz.f5.params.toList, Tryz.prog.readableRec t = true ∧ t < Tryz.prog.types.size := by
  rw [Tryz.params5]; intro t ht
  simp only [List.mem_cons, List.not_mem_nil, or_false] at ht
  rcases ht with rfl | rfl | rfl | rfl
  · exact rr22
  · exact rr30
  · exact rr9
  · exact rr24
theorem table {W : World} (h : laidMetH Tryz.prog Rows.sessionRefusesRow.laid W) : Lib.TabIs Tryz.prog W "math/bits.deBruijn64tab" .u8 deBz :=
  Lib.tabIs_of_head (rest := []) gTab gTabType Tryz.underlying283 Tryz.underlying5 cells5 cellsGT h
set_option maxRecDepth 100000 in
theorem contract (H : Type) (enc : TypeId × Value → H) (W : World) (base : Nat) (args : Array Value) (ds gs : List (DataW H)) (before : List MemPlace)
    (hval : ∀ (j : Nat) t v, Tryz.f5.params[j]? = some t → args[j]? = some v → Value.okWide Tryz.prog W .any base t v)
    (hW : DataW.Whole enc Tryz.prog Tryz.f5.params.toList Rows.sessionRefusesSpec.vars false W args.toList ds gs before) (hL : laidMetH Tryz.prog Rows.sessionRefusesRow.laid W) :
    Calls Tryz.prog 5 args W fun e W' => ∃ v, e = .returned v ∧ Rows.sessionRefusesSpec.post enc Tryz.prog Tryz.f5 false true false false W args v W' := by
  have hW' := hW
  obtain ⟨p, q, hA0, hV, rfl, hfz, hnd⟩ := hW
  have hA : DataW.TrodAll enc Tryz.prog W 0 (fun _ => true) true Tryz.f5.params.toList args.toList ds p := hA0
  have hAk := hA
  have hlt : ∀ x ∈ p, x.block < W.heap.size := fun x hx => hW'.lt x (by simp [hx])
  rw [Tryz.params5] at hA hval
  obtain ⟨v0, vs0, d0, ds0, p0, q0, hargs, rfl, rfl, h0, r0⟩ := trodAll_cons hA
  obtain ⟨v1, vs1, d1, ds1, p1, q1, rfl, rfl, rfl, h1, r1⟩ := trodAll_cons r0
  obtain ⟨v2, vs2, d2, ds2, p2, q2, rfl, rfl, rfl, h2, r2⟩ := trodAll_cons r1
  obtain ⟨v3, vs3, d3, ds3, p3, q3, rfl, rfl, rfl, h3, r3⟩ := trodAll_cons r2
  obtain ⟨rfl, rfl, rfl⟩ := trodAll_nil r3
  obtain ⟨rfl, rfl⟩ := trodVars_none hV
  have hG : Gl 1 W := gl_of_tab gTab (table hL)
  obtain rfl : args = #[v0, v1, v2, v3] := by cases args; simp_all
  obtain ⟨k0, rfl⟩ := arg_array Tryz.underlying22 Tryz.underlying5 cells5 cells22 (hval 0 22 v0 rfl rfl) h0
  obtain ⟨a1, n1, c1, b1, rfl, hn1, hl1, hc1⟩ := arg_bytes Tryz.underlying30 Tryz.underlying5 cells5 (hval 1 30 v1 rfl rfl) h1
  obtain ⟨b2, rfl⟩ := arg_str Tryz.underlying9 (hval 2 9 v2 rfl rfl) h2
  obtain ⟨z3, rfl⟩ := arg_u64 Tryz.underlying24 (hval 3 24 v3 rfl rfl) h3
  refine (XS.sp_mooringlaw22_SessionRefuses k0 a1 n1 c1 b1 b2 z3 W hn1 hc1 hl1 hG).mono fun e W' ⟨he, hS⟩ => ?_
  subst he
  have hb := hS.below
  exact ⟨_, rfl, _, _, _, [], _, [], hW', trodAll_cons_mk (shut_bool Tryz.underlying4 _) trodAll_mk0, args_below laidOut reads hAk hb hlt, rfl, hb.frame _, fun h => by cases h⟩
noncomputable def laidWorld (os : Os) : World :=
  { World.holding Tryz.prog os ⟨#[], #[], []⟩ with heap := (World.holding Tryz.prog os ⟨#[], #[], []⟩).heap.modify 1 fun
      | .cells _ t frozen => .cells (deBz.map fun z => Value.int .u8 z).toArray t frozen
      | o => o }
theorem laid_met (os : Os) : laidMet Tryz.prog Rows.sessionRefusesRow.laid ((laidWorld os).forCall (fun _ _ => 0) ⟨#[], #[.agg (List.replicate 16 (Value.int .u8 0)).toArray, .slice none 0 0, .string ⟨#[]⟩, .int .u64 0], []⟩).memory :=
  laidMet_of_run' 8 (by kernel_rfl) (by kernel_rfl)
theorem reading (os : Os) {H : Type} (enc : TypeId × Value → H) : ∃ places, DataW.whole enc Tryz.prog ((laidWorld os).forCall (fun _ _ => 0) ⟨#[], #[.agg (List.replicate 16 (Value.int .u8 0)).toArray, .slice none 0 0, .string ⟨#[]⟩, .int .u64 0], []⟩).memory Tryz.f5.params.toList Rows.sessionRefusesSpec.vars false (#[.agg (List.replicate 16 (Value.int .u8 0)).toArray, .slice none 0 0, .string ⟨#[]⟩, .int .u64 0] : Array Value).toList 8 = some ([.agg (List.replicate 16 (DataW.lit (.int .u8 0))), .nil, .lit (.string []), .lit (.int .u64 0)], [], places) :=
  ⟨[], by kernel_rfl⟩
set_option maxRecDepth 100000 in
theorem lifted (os : Os) (started : os.Started) (H : Type) (enc : TypeId × Value → H) (F : Stop.Interp) :
    ReturnsInHanded {} Tryz.checked os 5 .any ((OpenSpec.ofChange Rows.sessionRefusesSpec).preRow enc Tryz.prog Tryz.f5 Rows.sessionRefusesRow.domain false Rows.sessionRefusesRow.laid) (((OpenSpec.ofChange Rows.sessionRefusesSpec).at F).post enc Tryz.prog Tryz.f5 false true false false) := by
  obtain ⟨places, hx⟩ := reading os enc
  refine returnsInHanded_of_row (C := Tryz.checked) (s := OpenSpec.ofChange Rows.sessionRefusesSpec) own started (by kernel_rfl) Tryz.func5
    (witness_row_at (enc := enc) (C := Tryz.checked) false (laidWorld os) #[.agg (List.replicate 16 (Value.int .u8 0)).toArray, .slice none 0 0, .string ⟨#[]⟩, .int .u64 0] rfl (by kernel_rfl) (by kernel_rfl) (by kernel_rfl)
      (OpenSpec.preRow_of_cond 8 hx (by kernel_rfl) (fun k hk => by cases hk) (by kernel_rfl) (laid_met os))) ?_
  intro W base args ds gs before hval hW _ _ _ hL _ _
  exact contract H enc W base args ds gs before hval hW hL
theorem said : Rows.SessionRefusesSaid :=
  OpenClaim.holds_of_cond 5 Tryz.f5 rfl rfl rfl rfl rfl rfl rfl ⟨rfl, rfl, rfl, rfl, rfl⟩ rfl rfl rfl rfl rfl (by kernel_rfl) Tryz.func5 (by kernel_rfl)
    (of_decide_eq_true (by kernel_rfl)) (by unfold Func.isWrapper; first | (rw [if_pos (by decide +kernel)]; kernel_rfl) | (rw [if_neg (by decide +kernel)]; exact ⟨rfl, rfl⟩))
    (fun os started H enc _ F => by rw [OpenClaim.pre_eq_preRow]; exact lifted os started H enc F)
theorem plain (f : FuncId) (fn : Func) (hf : Tryz.pinned.checked.prog.funcNamed "mooring/mooringlaw22.SessionRefuses" = some f) (hfn : Tryz.pinned.checked.prog.funcs[f]? = some fn) :
    true = Tryz.pinned.checked.prog.looks [] ∧ ∀ (j : Nat) t, fn.params[j]? = some t → Tryz.pinned.checked.prog.wantsStandIn t = false := by
  obtain rfl : f = 5 := Option.some.inj ((show Tryz.prog.funcNamed "mooring/mooringlaw22.SessionRefuses" = some 5 by kernel_rfl).symm.trans hf) |>.symm
  obtain rfl : fn = Tryz.f5 := (Option.some.inj (Tryz.func5.symm.trans hfn)).symm
  refine ⟨by kernel_rfl, fun j t ht => ?_⟩
  rw [Tryz.params5] at ht
  have hm := Array.mem_of_getElem? ht
  simp only [List.mem_toArray, List.mem_cons, List.not_mem_nil, or_false] at hm
  rcases hm with rfl | rfl | rfl | rfl
  · exact ws22
  · exact ws30
  · exact ws9
  · exact ws24
end Go.Proofs.YtdcophmboncacaaGreatDoor.sessionRefusesP
namespace Go.Proofs.YtdcophmboncacaaGreatDoor
open Go
theorem sessionRefuses_card : Rows.SessionRefusesCardSaid :=
  Claim7.holds_tied_plain_at .later [] _ _ _ _ sessionRefusesP.said (fun _ h => by cases h) (by kernel_rfl) (fun _ h => by cases h) sessionRefuses_row_tie rfl ⟨rfl, rfl⟩ (by kernel_rfl) rfl sessionRefusesP.plain (by kernel_rfl)
#print axioms sessionRefuses_card
end Go.Proofs.YtdcophmboncacaaGreatDoor
