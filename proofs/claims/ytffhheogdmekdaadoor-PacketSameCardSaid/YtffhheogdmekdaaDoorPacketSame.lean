/- The statement PacketSame: for any two packets the call of mooringlaw17.PacketSame returns true and leaves its arguments as they were. Conditions: those of the given card (the table math/bits.deBruijn64tab holds what the text lays). -/
import Derived.Test.YtffhheogdmekdaaDoorBase5
import Derived.Test.YtffhheogdmekdaaDoorProg
import Derived.Test.YtffhheogdmekdaaDoorCards
import Derived.Test.YtffhheogdmekdaaDoorTie
set_option linter.unusedVariables false
set_option linter.unusedSimpArgs false
set_option linter.unnecessarySimpa false
/- walks -/
namespace Go.Proofs.XX
open Go Go.X Go.Proofs
set_option maxRecDepth 1000000 in
theorem cf6 : Callable Tryd.prog 6 := ⟨_, Tryd.func6, by kernel_rfl, rfl⟩
end Go.Proofs.XX

/- walks -/
namespace Go.Proofs.XX
open Go Go.X Go.Proofs
set_option maxRecDepth 100000 in
theorem sp_mooringlaw17_PacketSame (d : Int) (s : UInt64) (t e : UInt16) (a : Option Addr) (n cap : Nat) (bs : List UInt8) (d2 : Int) (s2 : UInt64) (t2 e2 : UInt16) (a2 : Option Addr) (n2 cap2 : Nat) (bs2 : List UInt8) (w0 : World) (hn : bs.length = n) (he : Cel w0 a (c8 bs)) (hd : -9223372036854775808 ≤ d ∧ d < 9223372036854775808) (hn2 : bs2.length = n2) (he2 : Cel w0 a2 (c8 bs2)) (hd2 : -9223372036854775808 ≤ d2 ∧ d2 < 9223372036854775808) (hG : Gl 0 w0) : Calls Tryd.prog 4 #[.agg #[I d, U64 s, U16 t, U16 e, .slice a n cap], .agg #[I d2, U64 s2, U16 t2, U16 e2, .slice a2 n2 cap2]] w0 (Ret w0 (.bool true)) := by
  refine enter (args := [.agg #[I d, U64 s, U16 t, U16 e, .slice a n cap], .agg #[I d2, U64 s2, U16 t2, U16 e2, .slice a2 n2 cap2]]) Tryd.func4 rfl rfl ?_
  refine startw fun w hS => ?_
  refine rg ?_
  refine bxa hS rfl rfl rfl ?_
  intro b2 w hb2 hS
  refine bxa hS rfl rfl rfl ?_
  intro b3 w hb3 hS
  refine asg rfl rfl rfl ?_
  refine wq_then ?_
  refine wc_seq ?_
  refine rg ?_
  refine cv cf6 hS rfl rfl rfl rfl rfl (sp_mooringlaw17_awake _ (hG.st hS)) ?_
  intro w hS
  refine notb rfl rfl rfl ?_
  refine mv rfl rfl rfl ?_
  refine fan (4) (4) Tryd.underlying33 rfl sz22 (by decide) rfl rfl rfl rfl (by omega) ?_
  refine lo 1 sc22 hS rfl rfl rfl rfl rfl ?_
  refine lens Tryd.underlying22 rfl rfl rfl ?_
  refine gtr rfl rfl rfl rfl ?_
  refine pk_f rfl rfl rfl rfl ?_
  refine mv rfl rfl rfl ?_
  refine spl 13 rfl (fun hb1 => ?_) (fun hb1 => ?_)
  · skip
    try simp only [SB] at hb1
    refine no rfl rfl ?_
    refine no rfl rfl ?_
    refine no rfl rfl ?_
    refine no rfl rfl ?_
    refine pk_t rfl rfl rfl rfl ?_
    refine wq_then ?_
    refine wc_if_t rfl ?_
    refine rg ?_
    refine cv cf6 hS rfl rfl rfl rfl rfl (sp_mooringlaw17_awake _ (hG.st hS)) ?_
    intro w hS
    refine asg rfl rfl rfl ?_
    refine wq_then ?_
    refine wc_ret ?_
    refine q_then_ret ?_
    refine fin1 (v := .bool (true)) rfl rfl ?_
    exact ⟨rfl, hS.drop⟩
  · skip
    try simp only [SB] at hb1
    refine fan (4) (4) Tryd.underlying33 rfl sz22 (by decide) rfl rfl rfl rfl (by omega) ?_
    refine lo 0 sc22 hS rfl rfl rfl rfl rfl ?_
    refine lens Tryd.underlying22 rfl rfl rfl ?_
    refine gtr rfl rfl rfl rfl ?_
    refine pk_f rfl rfl rfl rfl ?_
    refine wq_then ?_
    refine wc_if rfl (fun hc1 => ?_) (fun hc1 => ?_)
    · skip
      try simp only [SB] at hc1
      refine rg ?_
      refine cv cf6 hS rfl rfl rfl rfl rfl (sp_mooringlaw17_awake _ (hG.st hS)) ?_
      intro w hS
      refine asg rfl rfl rfl ?_
      refine wq_then ?_
      refine wc_ret ?_
      refine q_then_ret ?_
      refine fin1 (v := .bool (true)) rfl rfl ?_
      exact ⟨rfl, hS.drop⟩
    · skip
      try simp only [SB] at hc1
      refine wc_skip ?_
      refine wq_then ?_
      refine rd mo 12 (fun w => St w0 [] [(b3, .cells (#[I (d2), U64 (s2), U16 (t2), U16 (e2), .slice a2 n2 cap2]) 33), (b2, .cells (#[I (d), U64 (s), U16 (t), U16 (e), .slice a n cap]) 33)] w) ?_
      have hS := hS.drew
      refine dq 0 rfl (by kernel_rfl) (by kernel_rfl) (by kernel_rfl) rfl rfl (fun w hS => la 1 ag33 hS rfl rfl rfl rfl rfl ⟨rfl, rfl⟩) hS ?_
      refine dq 1 rfl (by kernel_rfl) (by kernel_rfl) (by kernel_rfl) rfl rfl (fun w hS => la 0 ag33 hS rfl rfl rfl rfl rfl ⟨rfl, rfl⟩) hS ?_
      refine dq 3 rfl (by kernel_rfl) (by kernel_rfl) (by kernel_rfl) rfl rfl (fun w hS => la 1 ag33 hS rfl rfl rfl rfl rfl ⟨rfl, rfl⟩) hS ?_
      refine dq 4 rfl (by kernel_rfl) (by kernel_rfl) (by kernel_rfl) rfl rfl (fun w hS => la 0 ag33 hS rfl rfl rfl rfl rfl ⟨rfl, rfl⟩) hS ?_
      refine dl 2 rfl (by kernel_rfl) ?_
      refine cv cf10 hS rfl rfl rfl rfl rfl (sp_packet_Same (d) (s) (t) (e) (a) (n) (cap) (bs) (d2) (s2) (t2) (e2) (a2) (n2) (cap2) (bs2) _ (by first | rfl | omega | (simp; omega) | (simp; done)) (by omega) (he.st hS) (by first | rfl | omega | (simp; omega) | (simp; done)) (by omega) (he2.st hS)) ?_
      intro w hS
      refine ⟨fun _ => hS, ?_⟩
      refine dl 5 rfl (by kernel_rfl) ?_
      refine cv cf11 hS rfl rfl rfl rfl rfl (sp_mooringref17_Same (d) (s) (t) (e) (a) (n) (cap) (bs) (d2) (s2) (t2) (e2) (a2) (n2) (cap2) (bs2) _ (by first | rfl | omega | (simp; omega) | (simp; done)) (by omega) (he.st hS) (by first | rfl | omega | (simp; omega) | (simp; done)) (by omega) (he2.st hS)) ?_
      intro w hS
      refine ⟨fun _ => hS, ?_⟩
      refine dq 6 rfl (by kernel_rfl) (by kernel_rfl) (by kernel_rfl) rfl rfl (fun w hS => eqb Tryd.underlying4 rfl rfl rfl rfl ⟨rfl, rfl⟩) hS ?_
      refine dq 7 rfl (by kernel_rfl) (by kernel_rfl) (by kernel_rfl) rfl rfl (fun w hS => mv rfl rfl rfl ⟨rfl, rfl⟩) hS ?_
      refine spd 27 rfl (fun hb2 => ?_) (fun hb2 => ?_)
      · skip
        try simp only [SB] at hb2
        refine dq 8 rfl (by kernel_rfl) (by kernel_rfl) (by kernel_rfl) rfl rfl (fun w hS => la 1 ag33 hS rfl rfl rfl rfl rfl ⟨rfl, rfl⟩) hS ?_
        refine dq 9 rfl (by kernel_rfl) (by kernel_rfl) (by kernel_rfl) rfl rfl (fun w hS => la 1 ag33 hS rfl rfl rfl rfl rfl ⟨rfl, rfl⟩) hS ?_
        refine dl 10 rfl (by kernel_rfl) ?_
        refine cv cf10 hS rfl rfl rfl rfl rfl (sp_packet_Same (d) (s) (t) (e) (a) (n) (cap) (bs) (d) (s) (t) (e) (a) (n) (cap) (bs) _ (by first | rfl | omega | (simp; omega) | (simp; done)) (by omega) (he.st hS) (by first | rfl | omega | (simp; omega) | (simp; done)) (by omega) (he.st hS)) ?_
        intro w hS
        refine ⟨fun _ => hS, ?_⟩
        refine dq 11 rfl (by kernel_rfl) (by kernel_rfl) (by kernel_rfl) rfl rfl (fun w hS => pk_t rfl rfl rfl rfl ⟨rfl, rfl⟩) hS ?_
        refine dl 12 rfl (by kernel_rfl) ?_
        refine asg rfl rfl rfl ?_
        refine ⟨fun h => (by cases h), ?_⟩
        refine de (by kernel_rfl) ?_
        refine wq_then ?_
        refine wc_ret ?_
        refine fin1 (v := .bool (sameV (restV d s t e) (restV d s t e) bs bs)) rfl rfl ?_
        refine ⟨?_, hS.drop⟩
        rw [sameV_self]
      · skip
        try simp only [SB] at hb2
        rw [same_eq s s2 t t2 e e2 bs bs2 hd hd2] at hb2; simp at hb2
end Go.Proofs.XX

/- PacketSame -/

namespace Go.Proofs.YtffhheogdmekdaaDoor.packetSameP
open Go Go.ChangeShapes Go.WideShapes Go.ChangeAt Go.RowKit Go.Deep Go.X

theorem own : ownKnob Tryd.prog.godebug = none := by kernel_rfl
theorem laidOut : laidOutB Tryd.prog = true := by kernel_rfl
theorem gTab : Tryd.prog.globalNamed "math/bits.deBruijn64tab" = some 0 := by kernel_rfl
theorem gTabType : (Tryd.prog.globals[0]?).map (·.type) = some 138 := by kernel_rfl
theorem cellsGT : Tryd.prog.cellsOf 138 = 64 := by kernel_rfl
theorem cells5 : Tryd.prog.cellsOf 5 = 1 := by kernel_rfl
theorem rr33 : Tryd.prog.readableRec 33 = true ∧ 33 < Tryd.prog.types.size := ⟨by kernel_rfl, of_decide_eq_true (by kernel_rfl)⟩
theorem ws33 : Tryd.prog.wantsStandIn 33 = false := by kernel_rfl
theorem cells33 : Tryd.prog.cellsOf 33 = 5 := by kernel_rfl
theorem reads : ∀ t ∈ Tryd.f4.params.toList, Tryd.prog.readableRec t = true ∧ t < Tryd.prog.types.size := by
  rw [Tryd.params4]; intro t ht
  simp only [List.mem_cons, List.not_mem_nil, or_false] at ht
  rcases ht with rfl | rfl <;> exact rr33

/-- what the row's list gives: the table of the numbers of zeros -/
theorem table {W : World} (h : laidMetH Tryd.prog Rows.packetSameRow.laid W) : Lib.TabIs Tryd.prog W "math/bits.deBruijn64tab" .u8 deBz :=
  Lib.tabIs_of_head (rest := []) gTab gTabType Tryd.underlying138 Tryd.underlying5 cells5 cellsGT h

set_option maxRecDepth 100000 in
/-- what the walk gives, for every argument and every world that holds the table -/
theorem contract (H : Type) (enc : TypeId × Value → H) (W : World) (base : Nat) (args : Array Value) (ds gs : List (DataW H)) (before : List MemPlace)
    (hval : ∀ (j : Nat) t v, Tryd.f4.params[j]? = some t → args[j]? = some v → Value.okWide Tryd.prog W .any base t v)
    (hW : DataW.Whole enc Tryd.prog Tryd.f4.params.toList Rows.packetSameSpec.vars false W args.toList ds gs before) (hL : laidMetH Tryd.prog Rows.packetSameRow.laid W) :
    Calls Tryd.prog 4 args W fun e W' => ∃ v, e = .returned v ∧ Rows.packetSameSpec.post enc Tryd.prog Tryd.f4 false true false false W args v W' := by
  have hW' := hW
  obtain ⟨p, q, hA0, hV, rfl, hfz, hnd⟩ := hW
  have hA : DataW.TrodAll enc Tryd.prog W 0 (fun _ => true) true Tryd.f4.params.toList args.toList ds p := hA0
  have hAk := hA
  have hlt : ∀ x ∈ p, x.block < W.heap.size := fun x hx => hW'.lt x (by simp [hx])
  rw [Tryd.params4] at hA hval
  obtain ⟨v0, vs0, d0, ds0, p0, q0, hargs, rfl, rfl, h0, r0⟩ := trodAll_cons hA
  obtain ⟨v1, vs1, d1, ds1, p1, q1, rfl, rfl, rfl, h1, r1⟩ := trodAll_cons r0
  obtain ⟨rfl, rfl, rfl⟩ := trodAll_nil r1
  obtain ⟨rfl, rfl⟩ := trodVars_none hV
  have hG : Gl 0 W := gl_of_tab gTab (table hL)
  obtain rfl : args = #[v0, v1] := by cases args; simp_all
  obtain ⟨dr0, s0, t0, e0, a0, n0, c0, b0, rfl, hd0, hn0, hl0, hc0⟩ := arg_packet Tryd.underlying33 (by kernel_rfl) cells33 Tryd.underlying3 Tryd.underlying24 Tryd.underlying31 Tryd.underlying31 Tryd.underlying22 Tryd.underlying5 cells5 (hval 0 33 v0 rfl rfl) h0
  obtain ⟨dr1, s1, t1, e1, a1, n1, c1, b1, rfl, hd1, hn1, hl1, hc1⟩ := arg_packet Tryd.underlying33 (by kernel_rfl) cells33 Tryd.underlying3 Tryd.underlying24 Tryd.underlying31 Tryd.underlying31 Tryd.underlying22 Tryd.underlying5 cells5 (hval 1 33 v1 rfl rfl) h1
  refine (XX.sp_mooringlaw17_PacketSame dr0 s0 t0 e0 a0 n0 c0 b0 dr1 s1 t1 e1 a1 n1 c1 b1 W hn0 hc0 hd0 hn1 hc1 hd1 hG).mono fun e W' ⟨he, hS⟩ => ?_
  subst he
  have hb := hS.below
  exact ⟨_, rfl, _, _, _, [], _, [], hW', trodAll_cons_mk (shut_bool Tryd.underlying4 _) trodAll_mk0, args_below laidOut reads hAk hb hlt, rfl, hb.frame _, fun h => by cases h⟩

/-- a world for the witness -/
noncomputable def laidWorld (os : Os) : World :=
  { World.holding Tryd.prog os ⟨#[], #[], []⟩ with heap := (World.holding Tryd.prog os ⟨#[], #[], []⟩).heap.modify 0 fun
      | .cells _ t frozen => .cells (deBz.map fun z => Value.int .u8 z).toArray t frozen
      | o => o }
theorem laid_met (os : Os) : laidMet Tryd.prog Rows.packetSameRow.laid ((laidWorld os).forCall (fun _ _ => 0) ⟨#[], #[.agg #[.int .i64 0, .int .u64 0, .int .u16 0, .int .u16 0, .slice none 0 0], .agg #[.int .i64 0, .int .u64 0, .int .u16 0, .int .u16 0, .slice none 0 0]], []⟩).memory :=
  laidMet_of_run' 8 (by kernel_rfl) (by kernel_rfl)
theorem reading (os : Os) {H : Type} (enc : TypeId × Value → H) : ∃ places, DataW.whole enc Tryd.prog ((laidWorld os).forCall (fun _ _ => 0) ⟨#[], #[.agg #[.int .i64 0, .int .u64 0, .int .u16 0, .int .u16 0, .slice none 0 0], .agg #[.int .i64 0, .int .u64 0, .int .u16 0, .int .u16 0, .slice none 0 0]], []⟩).memory Tryd.f4.params.toList Rows.packetSameSpec.vars false (#[.agg #[.int .i64 0, .int .u64 0, .int .u16 0, .int .u16 0, .slice none 0 0], .agg #[.int .i64 0, .int .u64 0, .int .u16 0, .int .u16 0, .slice none 0 0]] : Array Value).toList 8 = some ([.agg [.lit (.int .i64 0), .lit (.int .u64 0), .lit (.int .u16 0), .lit (.int .u16 0), .nil], .agg [.lit (.int .i64 0), .lit (.int .u64 0), .lit (.int .u16 0), .lit (.int .u16 0), .nil]], [], places) :=
  ⟨[], by kernel_rfl⟩

set_option maxRecDepth 100000 in
theorem lifted (os : Os) (started : os.Started) (H : Type) (enc : TypeId × Value → H) (F : Stop.Interp) :
    ReturnsInHanded {} Tryd.checked os 4 .any ((OpenSpec.ofChange Rows.packetSameSpec).preRow enc Tryd.prog Tryd.f4 Rows.packetSameRow.domain false Rows.packetSameRow.laid) (((OpenSpec.ofChange Rows.packetSameSpec).at F).post enc Tryd.prog Tryd.f4 false true false false) := by
  obtain ⟨places, hx⟩ := reading os enc
  refine returnsInHanded_of_row (C := Tryd.checked) (s := OpenSpec.ofChange Rows.packetSameSpec) own started (by kernel_rfl) Tryd.func4
    (witness_row_at (enc := enc) (C := Tryd.checked) false (laidWorld os) #[.agg #[.int .i64 0, .int .u64 0, .int .u16 0, .int .u16 0, .slice none 0 0], .agg #[.int .i64 0, .int .u64 0, .int .u16 0, .int .u16 0, .slice none 0 0]] rfl (by kernel_rfl) (by kernel_rfl) (by kernel_rfl)
      (OpenSpec.preRow_of_cond 8 hx (by kernel_rfl) (fun k hk => by cases hk) (by kernel_rfl) (laid_met os))) ?_
  intro W base args ds gs before hval hW _ _ _ hL _ _
  exact contract H enc W base args ds gs before hval hW hL

theorem said : Rows.PacketSameSaid :=
  OpenClaim.holds_of_cond 4 Tryd.f4 rfl rfl rfl rfl rfl rfl rfl ⟨rfl, rfl, rfl, rfl, rfl⟩ rfl rfl rfl rfl rfl (by kernel_rfl) Tryd.func4 (by kernel_rfl)
    (of_decide_eq_true (by kernel_rfl)) (by unfold Func.isWrapper; first | (rw [if_pos (by decide +kernel)]; kernel_rfl) | (rw [if_neg (by decide +kernel)]; exact ⟨rfl, rfl⟩))
    (fun os started H enc _ F => by rw [OpenClaim.pre_eq_preRow]; exact lifted os started H enc F)

theorem plain (f : FuncId) (fn : Func) (hf : Tryd.pinned.checked.prog.funcNamed "mooring/mooringlaw17.PacketSame" = some f) (hfn : Tryd.pinned.checked.prog.funcs[f]? = some fn) :
    true = Tryd.pinned.checked.prog.looks [] ∧ ∀ (j : Nat) t, fn.params[j]? = some t → Tryd.pinned.checked.prog.wantsStandIn t = false := by
  obtain rfl : f = 4 := Option.some.inj ((show Tryd.prog.funcNamed "mooring/mooringlaw17.PacketSame" = some 4 by kernel_rfl).symm.trans hf) |>.symm
  obtain rfl : fn = Tryd.f4 := (Option.some.inj (Tryd.func4.symm.trans hfn)).symm
  refine ⟨by kernel_rfl, fun j t ht => ?_⟩
  rw [Tryd.params4] at ht
  have hm := Array.mem_of_getElem? ht
  simp only [List.mem_toArray, List.mem_cons, List.not_mem_nil, or_false] at hm
  rcases hm with rfl | rfl <;> exact ws33
end Go.Proofs.YtffhheogdmekdaaDoor.packetSameP
namespace Go.Proofs.YtffhheogdmekdaaDoor
open Go
/-- the tied card -/
theorem packetSame_card : Rows.PacketSameCardSaid :=
  Claim7.holds_tied_plain_at .later [] _ _ _ _ packetSameP.said (fun _ h => by cases h) (by kernel_rfl) (fun _ h => by cases h) packetSame_row_tie rfl ⟨rfl, rfl⟩ (by kernel_rfl) rfl packetSameP.plain (by kernel_rfl)
#print axioms packetSame_card
end Go.Proofs.YtffhheogdmekdaaDoor
