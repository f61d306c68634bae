/- The statement PacketLong: for every key, every number and every packet the call of mooringlaw17.PacketLong returns true and leaves its arguments as they were. Conditions: those of the given card (the table math/bits.deBruijn64tab holds what the text lays). -/
import Derived.Test.YtffhheogdmekdaaDoorBase5
import Derived.Test.YtffhheogdmekdaaDoorProg
import Derived.Test.YtffhheogdmekdaaDoorCards
import Derived.Test.YtffhheogdmekdaaDoorTie
set_option linter.unusedVariables false
set_option linter.unusedSimpArgs false
set_option linter.unnecessarySimpa false
/- walks -/
namespace Go.Proofs.XX
open Go Go.X Go.Proofs
set_option maxRecDepth 1000000 in
theorem cf6 : Callable Tryd.prog 6 := ⟨_, Tryd.func6, by kernel_rfl, rfl⟩
end Go.Proofs.XX

/- walks -/
namespace Go.Proofs.XX
open Go Go.X Go.Proofs
set_option maxRecDepth 1000000 in
theorem cf12 : Callable Tryd.prog 12 := ⟨_, Tryd.func12, by kernel_rfl, rfl⟩
set_option maxRecDepth 1000000 in
theorem cf13 : Callable Tryd.prog 13 := ⟨_, Tryd.func13, by kernel_rfl, rfl⟩
end Go.Proofs.XX

/- append of zeros to a slice of one's own. -/
namespace Go.X
open Go
section
variable {P : Program} {ops : Array Oper} {n : Nat} {l : Regs} {w w0 : World} {K : Regs → World → Prop} {F : List Nat} {L A R X : List (Nat × Obj)}
variable {d T S S2 : Nat} {ps : String} {af : Array Edge} {g : Option (Nat × Bool)} {x y : Operand} {v u : Value} {a : Option Addr} {m cap e : Nat} {xs : List Value}
theorem zc8 (q : Nat) : Builtin.zeroCells (U8 0).cells q = (c8 (List.replicate q 0)).toArray := by
  have e1 : (U8 0).cells = #[U8 0] := rfl
  rw [e1]
  apply arr_ext; intro i
  simp only [Builtin.zeroCells, Array.getElem?_map, Array.getElem?_range, List.getElem?_toArray, c8_get', List.length_replicate]
  by_cases h : i < q
  · simp [h, gl, Nat.mod_one]
  · simp [h]
theorem appz {by_ q : Nat} {kd : IntKind} {p : Int} (hT : SlT P S e 1 by_ (U8 0)) (hI : ∃ kd2, P.underlying S2 = some (.int kd2)) (hO : Own 1 a m cap xs X) (hS : St w0 F (A ++ (X ++ R)) w) (hg : gval ops l ⟨some d, .call ⟨.builtin .append, #[x, y], #[S, S2]⟩, T, ps, af, g⟩ = some true) (hd : Nat.blt d n = true)
    (hx : ev l x = some (.slice a m cap)) (hy : ev l y = some (.int kd p)) (hp : p = (q : Int)) (h0 : 0 < q) (hb : (m + q) * by_ ≤ 140737488355328) (h63 : m + q ≤ 140737488355328)
    (k : ∀ a' c' X' w', Own 1 a' (m + q) c' (xs ++ c8 (List.replicate q 0)) X' → St w0 F (A ++ (X' ++ R)) w' → K ((d, .slice a' (m + q) c') :: l) w') : WO P ops n ⟨some d, .call ⟨.builtin .append, #[x, y], #[S, S2]⟩, T, ps, af, g⟩ l w K := by
  obtain ⟨hu, i, hi, hz, hsz, hby, hzz⟩ := hT
  obtain ⟨kd2, hI⟩ := hI
  subst hp
  have hlr : (c8 (List.replicate q 0)).length = q := by simp [c8_len]
  have hw : IntKind.i64.wrap (q : Int) = (q : Int) := by
    simp only [IntKind.wrap, IntKind.signed, IntKind.bits]
    simp
    omega
  have hqb : q * by_ ≤ 140737488355328 := Nat.le_trans (Nat.mul_le_mul_right by_ (Nat.le_add_left q m)) hb
  have hbb : ¬ (281474976710656 : Int) < (q : Int) * (i.bytes : Int) := by
    rw [hby]; have : ((q * by_ : Nat) : Int) ≤ 140737488355328 := by omega
    simp only [Int.natCast_mul] at this; omega
  have hneg : ¬ (q : Int) < 0 := by omega
  have hq0 : ¬ q = 0 := by omega
  have hrun : ∃ a' c' X' w', (Builtin.append_ #[S, S2] T #[.slice a m cap, .int kd (q : Int)]).run P w = .ok (.slice a' (m + q) c') w' ∧ Own 1 a' (m + q) c' (xs ++ c8 (List.replicate q 0)) X' ∧ St w0 F (A ++ (X' ++ R)) w' := by
    have hl : (xs ++ c8 (List.replicate q 0)).length = (m + q) * 1 := by rw [List.length_append, hO.1, hlr, Nat.mul_one, Nat.mul_one]
    by_cases hroom : m + q ≤ cap
    · rcases hO.2.2.2 with ⟨rfl, rfl, rfl, rfl⟩ | ⟨b, cur, E, rfl, rfl, hcs, ht⟩
      · omega
      · have hmem : (b, Obj.cells cur E (0, 0)) ∈ A ++ ([(b, .cells cur E (0, 0))] ++ R) := by simp
        have hbh := (hS.own _ hmem).2
        have hle : m * 1 + (c8 (List.replicate q 0)).length ≤ cur.size := by rw [hcs, hlr]; omega
        have hst := run_storeCells_at P b (m * 1) E (c8 (List.replicate q 0)) 0 cur w hbh (by simpa using hle) (c8_one _)
        simp only [Nat.add_zero] at hst
        have hr : (Builtin.append_ #[S, S2] T #[.slice (some ⟨b, 0, none⟩) m cap, .int kd (q : Int)]).run P w = .ok (.slice (some ⟨b, 0, none⟩) (m + q) cap) (w.setRow b (putAt cur (m * 1) (c8 (List.replicate q 0)).toArray)) := by
          simp [Builtin.append_, run_underlying hu, run_underlying hI, sizeOf, typeInfo, zeroValue, hi, hz, asInt, asIntOf, hw, hbb, hq0, hneg, hsz, hroom, zc8, Addr.add_lit, putAt]
          simp only [Nat.mul_one] at hst
          rw [hst]; simp [hlr]
        refine ⟨_, cap, [(b, .cells (putAt cur (m * 1) (c8 (List.replicate q 0)).toArray) E (0, 0))], _, hr, ⟨hl, hroom, hO.2.2.1, .inr ⟨b, _, E, rfl, rfl, ?_, ?_⟩⟩, ?_⟩
        · rw [putAt_size _ _ _ (by simpa using hle), hcs]
        · have := put_take cur (m * 1) (c8 (List.replicate q 0)) hle
          rw [hlr, ht, Nat.mul_one] at this
          rw [Nat.mul_one, Nat.mul_one]; exact this
        · have hS' := hS.setRow A.length (b := b) (cs := cur) (cs' := putAt cur (m * 1) (c8 (List.replicate q 0)).toArray) (T := E) (fz := (0, 0)) (by simp)
          have e2 : (A ++ ([(b, Obj.cells cur E (0, 0))] ++ R)).set A.length (b, .cells (putAt cur (m * 1) (c8 (List.replicate q 0)).toArray) E (0, 0)) = A ++ ([(b, .cells (putAt cur (m * 1) (c8 (List.replicate q 0)).toArray) E (0, 0))] ++ R) := by
            simp [List.set_append]
          rw [e2] at hS'; exact hS'
    · have hg' : cap < m + q := by omega
      have hfit : ¬ (281474976710656 < Builtin.nextslicecap (m + q) cap * i.bytes) := by
        have h1 := nextslicecap_le hg'
        have h2 := Nat.mul_le_mul_right i.bytes h1
        rw [hby] at h2 ⊢
        rw [Nat.mul_assoc] at h2
        omega
      have hold : (Builtin.firstCells i.size m (.slice a m cap)).run P w.drew = .ok xs.toArray w.drew := by
        have hcel := hO.cel hS (fun p hp => mem_tail A R hp)
        cases a with
        | none =>
          rcases hO.2.2.2 with ⟨_, rfl, rfl, rfl⟩ | ⟨b, cur, E, h, _⟩
          · have : xs = [] := List.eq_nil_of_length_eq_zero (by simpa using hO.1)
            subst this; exact run_firstCells_none w.drew _ _ _ _
          · cases h
        | some a =>
          refine run_firstCells_some w.drew i.size m a m cap xs (by rw [hsz]; exact hO.1) (fun j v hj => ?_)
          have := (hcel j v hj).2
          simpa [adr] using this
      have h63' : ¬ (9223372036854775807 < (m : Int) + (q : Int)) := by omega
      have hge := grownCap_ge w (m + q) cap e
      have hcm : grownCap w (m + q) cap e ≤ maxLen := grownCap_le_maxLen w (m + q) cap e (by unfold maxLen; omega)
      have hr : (Builtin.append_ #[S, S2] T #[.slice a m cap, .int kd (q : Int)]).run P w = .ok (.slice (some ⟨w.heap.size, 0, none⟩) (m + q) (grownCap w (m + q) cap e))
          (w.drew.alloc (.cells ((xs ++ c8 (List.replicate q 0)).toArray ++ Builtin.zeroCells (U8 0).cells (grownCap w (m + q) cap e - (m + q))) e)) := by
        rw [hsz] at hold
        simp [Builtin.append_, run_underlying hu, run_underlying hI, sizeOf, typeInfo, zeroValue, hi, hz, asInt, asIntOf, hw, hbb, hq0, hneg, hsz, hg', h63', hfit, Question.forced, newRow, grownCap, hold, zc8]
        intro h; omega
      have hzc : (Builtin.zeroCells (U8 0).cells (grownCap w (m + q) cap e - (m + q))).size = (grownCap w (m + q) cap e - (m + q)) * 1 := by
        simp [zc8, c8_len]
      refine ⟨_, _, [(w.heap.size, .cells ((xs ++ c8 (List.replicate q 0)).toArray ++ Builtin.zeroCells (U8 0).cells (grownCap w (m + q) cap e - (m + q))) e)], _, hr, ⟨hl, hge, hcm, .inr ⟨_, _, e, rfl, rfl, ?_, ?_⟩⟩, ?_⟩
      · rw [Array.size_append, hzc]
        simp only [List.size_toArray, hl]
        rw [← Nat.add_mul]; congr 1; omega
      · rw [Array.toList_append]; exact List.take_left' hl
      · have hd' : St w0 F (A ++ (X ++ R)) w.drew := hS.drew
        have ha := hd'.alloc (.cells ((xs ++ c8 (List.replicate q 0)).toArray ++ Builtin.zeroCells (U8 0).cells (grownCap w (m + q) cap e - (m + q))) e)
        have hsz' : w.drew.heap.size = w.heap.size := rfl
        rw [hsz'] at ha
        have h5 := ha.sublist (List.Sublist.cons_cons _ (List.Sublist.append (List.Sublist.refl A) (List.sublist_append_right X R)))
        exact h5.perm List.perm_middle
  obtain ⟨a', c', X', w', hr, ho, hs'⟩ := hrun
  intro act ha
  rw [if_pos (ha.wanted hg)]
  have e1 : (execOp act.eval ⟨some d, .call ⟨.builtin .append, #[x, y], #[S, S2]⟩, T, ps, af, g⟩).run P w = .ok (.value (.slice a' (m + q) c')) w' := by
    simp [execOp, resolve, ha.ev hx, ha.ev hy, invoke, builtin, hr]
  simp only [Oper.wp, e1, Oper.upon]
  exact ⟨_, ha.put _ (by simpa [Nat.blt_eq] using hd), k a' c' X' w' ho hs'⟩
end
end Go.X

/- walks -/
namespace Go.Proofs.XX
open Go Go.X Go.Proofs
set_option maxRecDepth 100000 in
theorem sp_mooringlaw17_few (a : Option Addr) (n cap : Nat) (w0 : World) : Calls Tryd.prog 12 #[.slice a n cap] w0 (Ret w0 (.bool (decide (((n : Nat) : Int) ≤ 120)))) := by
  refine enter (args := [.slice a n cap]) Tryd.func12 rfl rfl ?_
  refine startw fun w hS => ?_
  refine rg ?_
  refine asg rfl rfl rfl ?_
  refine wq_then ?_
  refine rg ?_
  refine mv rfl rfl rfl ?_
  refine lens Tryd.underlying22 rfl rfl rfl ?_
  refine leq rfl rfl rfl rfl ?_
  refine asg rfl rfl rfl ?_
  refine wq_then ?_
  refine wc_ret ?_
  refine fin1 (v := .bool (decide (((n : Nat) : Int) ≤ 120))) rfl rfl ?_
  exact ⟨rfl, hS.drop⟩
end Go.Proofs.XX

/- walks -/
namespace Go.Proofs.XX
open Go Go.X Go.Proofs
set_option maxRecDepth 100000 in
theorem sp_mooringref01_Spread (x : UInt64) (n : Nat) (n_ : Int) (w0 : World) (hn_ : n_ = (n : Int)) (hn : n ≤ 100000) : Calls Tryd.prog 13 #[U64 x, I n_] w0 (RetS w0 (fun v X => ∃ a c, v = .slice a n c ∧ Own 1 a n c (c8 (sprL x n)) X)) := by
  subst hn_
  refine enter (args := [U64 x, I (n : Int)]) Tryd.func13 rfl rfl ?_
  refine startw fun w hS => ?_
  refine rg ?_
  refine asg rfl rfl rfl ?_
  refine wq_then ?_
  refine rg ?_
  refine asg rfl rfl rfl ?_
  refine wq_then ?_
  refine rg ?_
  refine mv rfl rfl rfl ?_
  refine asg rfl rfl rfl ?_
  refine wq_then ?_
  refine wc_seq ?_
  refine rg ?_
  refine asg rfl rfl rfl ?_
  refine wq_then ?_
  refine wc_block ?_
  refine wc_loop (σ := (Nat × Option Addr × Nat × List (Nat × Obj))) (fun s => [(1, I ((n : Int))), (4, (.slice none 0 0)), (5, .slice s.2.1 s.1 s.2.2.1), (6, U64 (sprX x s.1)), (7, I ((s.1 : Int)))])
    (fun s w => (s.1 ≤ n ∧ Own 1 s.2.1 s.1 s.2.2.1 (c8 (sprL x s.1)) s.2.2.2) ∧ St w0 [] ([] ++ (s.2.2.2 ++ [])) w) (fun s => n - s.1) (0, none, 0, []) ⟨rfl, rfl, rfl, rfl, rfl, trivial⟩ ⟨⟨by omega, Own.nil 1⟩, hS⟩ ?_
  rintro s w ⟨⟨hk, hO⟩, hS⟩
  refine wc_seq ?_
  refine rg ?_
  refine mv rfl rfl rfl ?_
  refine mv rfl rfl rfl ?_
  refine lss rfl rfl rfl rfl ?_
  refine wq_then ?_
  refine wc_if rfl (fun hc1 => ?_) (fun hc1 => ?_)
  · skip
    try simp only [SB] at hc1
    refine wc_skip ?_
    refine wq_then ?_
    refine wc_seq ?_
    refine wc_block ?_
    refine rg ?_
    refine mv rfl rfl rfl ?_
    refine mul64 (q := (6364136223846793005 : UInt64)) rfl rfl rfl rfl ?_
    refine add64 (q := (1442695040888963407 : UInt64)) rfl rfl rfl rfl ?_
    refine asg rfl rfl rfl ?_
    refine wq_then ?_
    refine wc_region ?_
    refine mv rfl rfl rfl ?_
    refine mv rfl rfl rfl ?_
    refine shrn64 (33) (by omega) rfl rfl rfl rfl ?_
    refine cvu8 Tryd.underlying5 ⟨_, Tryd.underlying24⟩ rfl rfl rfl ?_
    refine bsl (cs := #[U8 (toU8 (((shr64 (((sprX x s.1) * 6364136223846793005) + 1442695040888963407) 33).toNat : Int)))]) sl22 hS rfl rfl rfl rfl (by kernel_rfl) ?_
    intro b21 w hb21 hS
    refine app (A := [(b21, .cells (#[U8 (toU8 (((shr64 (((sprX x s.1) * 6364136223846793005) + 1442695040888963407) 33).toNat : Int)))]) 5)]) (R := []) sl22 hO hS rfl rfl rfl rfl (src8 Tryd.underlying22 _ (Cel.lb (l := [toU8 (((shr64 (((sprX x s.1) * 6364136223846793005) + 1442695040888963407) 33).toNat : Int))]) (hS.get 0 rfl)) (by first | rfl | omega | (simp; omega) | (simp; done))) (by omega) (by omega) ?_
    intro a22 c22 X22 w hO22 hS
    try simp only [c8_app] at hO22
    refine asg rfl rfl rfl ?_
    refine q_block_norm ?_
    refine wq_then ?_
    refine wc_region ?_
    refine mv rfl rfl rfl ?_
    refine addi (by omega) (by omega) rfl rfl rfl rfl ?_
    refine asg rfl rfl rfl ?_
    refine again_q (s.1 + 1, a22, c22, X22) ⟨rfl, rfl, rfl, rfl, lkI rfl (by first | omega | rfl), trivial⟩ ⟨⟨by omega, by have h := hO22; rw [sprL_succ] at h; exact h⟩, hS.tl⟩ (by omega)
  · skip
    try simp only [SB] at hc1
    refine wc_exit ?_
    refine q_then_exit ?_
    refine q_then_exit ?_
    refine q_block_hit ?_
    refine wq_then ?_
    refine rg ?_
    refine mv rfl rfl rfl ?_
    refine asg rfl rfl rfl ?_
    refine wq_then ?_
    refine wc_ret ?_
    refine fin1 (v := .slice s.2.1 s.1 s.2.2.1) rfl rfl ?_
    have hk4 : s.1 = n := by omega
    rw [hk4] at hO
    exact ⟨_, _, rfl, ⟨_, _, by rw [hk4], hO⟩, by simpa using hS⟩
end Go.Proofs.XX

/- walks -/
namespace Go.Proofs.XX
open Go Go.X Go.Proofs
set_option maxRecDepth 100000 in
theorem sp_mooringlaw17_PacketLong (key : V8 16) (zz : UInt16) (d : Int) (s : UInt64) (t e : UInt16) (a : Option Addr) (n cap : Nat) (bs : List UInt8) (w0 : World) (hn : bs.length = n) (he : Cel w0 a (c8 bs)) (hcap : n ≤ cap) (hd : -9223372036854775808 ≤ d ∧ d < 9223372036854775808) (hG : Gl 0 w0) : Calls Tryd.prog 5 #[.agg (BV key), U16 zz, .agg #[I d, U64 s, U16 t, U16 e, .slice a n cap]] w0 (Ret w0 (.bool true)) := by
  refine enter (args := [.agg (BV key), U16 zz, .agg #[I d, U64 s, U16 t, U16 e, .slice a n cap]]) Tryd.func5 rfl rfl ?_
  refine startw fun w hS => ?_
  refine rg ?_
  refine bxa hS rfl rfl rfl ?_
  intro b3 w hb3 hS
  refine bxa hS rfl rfl rfl ?_
  intro b5 w hb5 hS
  refine asg rfl rfl rfl ?_
  refine wq_then ?_
  refine wc_seq ?_
  refine rg ?_
  refine cv cf6 hS rfl rfl rfl rfl rfl (sp_mooringlaw17_awake _ (hG.st hS)) ?_
  intro w hS
  refine notb rfl rfl rfl ?_
  refine mv rfl rfl rfl ?_
  refine fan (4) (4) Tryd.underlying33 rfl sz22 (by decide) rfl rfl rfl rfl (by omega) ?_
  refine lo 0 sc22 hS rfl rfl rfl rfl rfl ?_
  refine cv cf12 hS rfl rfl rfl rfl rfl (sp_mooringlaw17_few (a) (n) (cap) _) ?_
  intro w hS
  refine notb rfl rfl rfl ?_
  refine pk_f rfl rfl rfl rfl ?_
  refine mv rfl rfl rfl ?_
  refine spl 23 rfl (fun hb1 => ?_) (fun hb1 => ?_)
  · skip
    try simp only [SB] at hb1
    refine no rfl rfl ?_
    refine no rfl rfl ?_
    refine no rfl rfl ?_
    refine no rfl rfl ?_
    refine no rfl rfl ?_
    refine no rfl rfl ?_
    refine no rfl rfl ?_
    refine no rfl rfl ?_
    refine pk_t rfl rfl rfl rfl ?_
    refine mv rfl rfl rfl ?_
    refine no rfl rfl ?_
    refine no rfl rfl ?_
    refine no rfl rfl ?_
    refine pk_t rfl rfl rfl rfl ?_
    refine wq_then ?_
    refine wc_if_t rfl ?_
    refine rg ?_
    refine cv cf6 hS rfl rfl rfl rfl rfl (sp_mooringlaw17_awake _ (hG.st hS)) ?_
    intro w hS
    refine asg rfl rfl rfl ?_
    refine wq_then ?_
    refine wc_ret ?_
    refine q_then_ret ?_
    refine fin1 (v := .bool (true)) rfl rfl ?_
    exact ⟨rfl, hS.drop⟩
  · skip
    try simp only [SB] at hb1
    refine fan (0) (0) Tryd.underlying33 rfl sz3 (by decide) rfl rfl rfl rfl (by omega) ?_
    refine lo 0 sc3 hS rfl rfl rfl rfl rfl ?_
    refine nei rfl rfl rfl rfl ?_
    refine mv rfl rfl rfl ?_
    refine spl 27 rfl (fun hb2 => ?_) (fun hb2 => ?_)
    · skip
      try simp only [SB] at hb2
      refine fan (0) (0) Tryd.underlying33 rfl sz3 (by decide) rfl rfl rfl rfl (by omega) ?_
      refine lo 0 sc3 hS rfl rfl rfl rfl rfl ?_
      refine nei rfl rfl rfl rfl ?_
      refine pk_t rfl rfl rfl rfl ?_
      refine pk_f rfl rfl rfl rfl ?_
      refine mv rfl rfl rfl ?_
      refine spl 33 rfl (fun hb3 => ?_) (fun hb3 => ?_)
      · skip
        try simp only [SB] at hb3
        refine no rfl rfl ?_
        refine no rfl rfl ?_
        refine no rfl rfl ?_
        refine pk_t rfl rfl rfl rfl ?_
        refine wq_then ?_
        refine wc_if_t rfl ?_
        refine rg ?_
        refine cv cf6 hS rfl rfl rfl rfl rfl (sp_mooringlaw17_awake _ (hG.st hS)) ?_
        intro w hS
        refine asg rfl rfl rfl ?_
        refine wq_then ?_
        refine wc_ret ?_
        refine q_then_ret ?_
        refine fin1 (v := .bool (true)) rfl rfl ?_
        exact ⟨rfl, hS.drop⟩
      · skip
        try simp only [SB] at hb3
        refine fan (1) (1) Tryd.underlying33 rfl sz24 (by decide) rfl rfl rfl rfl (by omega) ?_
        refine lo 0 sc24 hS rfl rfl rfl rfl rfl ?_
        refine geq rfl rfl rfl rfl ?_
        refine pk_f rfl rfl rfl rfl ?_
        refine wq_then ?_
        refine wc_if rfl (fun hc1 => ?_) (fun hc1 => ?_)
        · skip
          try simp only [SB] at hc1
          refine rg ?_
          refine cv cf6 hS rfl rfl rfl rfl rfl (sp_mooringlaw17_awake _ (hG.st hS)) ?_
          intro w hS
          refine asg rfl rfl rfl ?_
          refine wq_then ?_
          refine wc_ret ?_
          refine q_then_ret ?_
          refine fin1 (v := .bool (true)) rfl rfl ?_
          exact ⟨rfl, hS.drop⟩
        · skip
          try simp only [SB] at hc1
          refine wc_skip ?_
          refine wq_then ?_
          refine rg ?_
          refine mv rfl rfl rfl ?_
          refine cvi Tryd.underlying3 ⟨_, Tryd.underlying31⟩ (by have := (zz).toNat_lt; omega) (by have := (zz).toNat_lt; omega) rfl rfl rfl ?_
          refine remi (by omega) (by omega) rfl rfl rfl rfl ?_
          refine addi (by omega) (by omega) rfl rfl rfl rfl ?_
          refine asg rfl rfl rfl ?_
          refine wq_then ?_
          refine rg ?_
          refine fan (1) (1) Tryd.underlying33 rfl sz24 (by decide) rfl rfl rfl rfl (by omega) ?_
          refine lo 0 sc24 hS rfl rfl rfl rfl rfl ?_
          refine mv rfl rfl rfl ?_
          refine cs cf13 hS rfl rfl rfl rfl rfl (sp_mooringref01_Spread (s) ((1190 + (((zz).toNat) % 20))) _ _ (by omega) (by omega)) ?_
          rintro _ X46 w ⟨a46, c46, rfl, hO46⟩ hS
          have hS := St.tailin (X := X46) hS [(b5, .cells (#[I (d), U64 (s), U16 (t), U16 (e), .slice a n cap]) 33), (b3, .cells (BV key) 35)] [] rfl
          have hle46 := hO46.le
          refine fan (4) (4) Tryd.underlying33 rfl sz22 (by decide) rfl rfl rfl rfl (by omega) ?_
          refine st 0 sz22 hS rfl rfl rfl rfl rfl rfl (by show (4 : Nat) < 5; decide) rfl ?_
          intro w hS
          refine wq_then ?_
          refine rg ?_
          refine la 1 ag35 hS rfl rfl rfl rfl (BV_size _) ?_
          refine cs cf15 hS rfl rfl rfl rfl rfl (sp_fast_New (key) _) ?_
          rintro _ _ w ⟨c49, rfl, rfl⟩ hS
          refine cs cf14 hS rfl rfl rfl rfl rfl (sp_table_New (c49) (_) (key) _ (hS.get 0 rfl)) ?_
          rintro _ _ w ⟨t50, rfl, rfl⟩ hS
          refine asg rfl rfl rfl ?_
          refine wq_then ?_
          refine rg ?_
          refine mv rfl rfl rfl ?_
          refine la 2 ag33 hS rfl rfl rfl rfl rfl ?_
          refine cs cf16 hS rfl rfl rfl rfl rfl (sp_packet_Encode (t50) (c49) (key) (d) (s) (t) (e) (a46) ((1190 + (((zz).toNat) % 20))) (c46) ((sprL s (1190 + (((zz).toNat) % 20)))) _ (⟨⟨_, hS.get 0 rfl⟩, _, hS.get 1 rfl⟩) hO46.len8 (by omega) (hO46.cel hS (fun p hp => by simp [hp])) (by omega) (hG.st hS)) ?_
          rintro _ X54 w ⟨a54, n54, c54, rfl, hO54⟩ hS
          have hS := St.tailin (X := X54) hS [(t50, .cells (tableC c49 key) 60), (c49, .cells (cipherC key) 69), (b5, .cells (#[I (d), U64 (s), U16 (t), U16 (e), .slice a46 (1190 + (((zz).toNat) % 20)) c46]) 33), (b3, .cells (BV key) 35)] (X46 ++ []) rfl
          have hl54 := hO54.len8
          have hc54 := hO54.le
          refine mv rfl rfl rfl ?_
          refine ext rfl rfl rfl rfl ?_
          refine ext rfl rfl rfl rfl ?_
          refine asg rfl rfl rfl ?_
          refine asg rfl rfl rfl ?_
          refine wq_then ?_
          refine wc_seq ?_
          refine rg ?_
          refine mv rfl rfl rfl ?_
          refine gtr rfl rfl rfl rfl ?_
          refine wq_then ?_
          refine wc_if rfl (fun hc2 => ?_) (fun hc2 => ?_)
          · skip
            try simp only [SB] at hc2
            have hE : chk d s (1190 + (zz).toNat % 20) = 2 := pl_big (by omega) (by omega) (by omega)
            rw [encP_bad hO46.len8 (by rw [hE]; decide)] at hl54
            refine rg ?_
            refine mv rfl rfl rfl ?_
            refine lens Tryd.underlying22 rfl rfl rfl ?_
            refine eqi rfl rfl rfl rfl ?_
            refine mv rfl rfl rfl ?_
            refine spl 62 rfl (fun hb4 => ?_) (fun hb4 => ?_)
            · skip
              try simp only [SB] at hb4
              refine mv rfl rfl rfl ?_
              refine mki cc46 rfl rfl rfl ?_
              refine eqEE (c := (chk d s (1190 + (((zz).toNat) % 20)))) Tryd.underlying43 ec46 rfl rfl rfl rfl ?_
              refine pk_t rfl rfl rfl rfl ?_
              refine asg rfl rfl rfl ?_
              refine wq_then ?_
              refine wc_ret ?_
              refine q_then_ret ?_
              refine fin1 (v := .bool (decide ((((chk d s (1190 + (((zz).toNat) % 20))) : Nat) : Int) = 2 ∧ (chk d s (1190 + (((zz).toNat) % 20))) ≠ 0))) rfl rfl ?_
              refine ⟨?_, hS.drop⟩
              rw [hE]; rfl
            · skip
              try simp only [SB] at hb4
              exfalso; omega
          · skip
            try simp only [SB] at hc2
            have hE : chk d s (1190 + (zz).toNat % 20) = 0 := pl_ok (by omega) (by omega) (by omega)
            obtain ⟨hL, hD, hQ⟩ := enc_all (key := key) (t := t) (e := e) hO46.len8 hE
            rw [hL] at hl54
            refine wc_skip ?_
            refine wq_then ?_
            refine rg ?_
            refine mv rfl rfl rfl ?_
            refine mv rfl rfl rfl ?_
            refine cs cf17 hS rfl rfl rfl rfl rfl (sp_packet_Decode (t50) (c49) (key) (a54) (n54) (c54) ((encP key d s t e (sprL s (1190 + (((zz).toNat) % 20))))) _ (⟨⟨_, hS.get 0 rfl⟩, _, hS.get 1 rfl⟩) hO54.len8 (by omega) (hO54.cel hS (fun p hp => by simp [hp])) (by omega) (hG.st hS)) ?_
            rintro _ X70 w ⟨a70, n70, c70, rfl, hl70, hm70, hc70, hR70⟩ hS
            have hS := St.tailin (X := X70) hS [(t50, .cells (tableC c49 key) 60), (c49, .cells (cipherC key) 69), (b5, .cells (#[I (d), U64 (s), U16 (t), U16 (e), .slice a46 (1190 + (((zz).toNat) % 20)) c46]) 33), (b3, .cells (BV key) 35)] (X54 ++ (X46 ++ [])) rfl
            refine mv rfl rfl rfl ?_
            refine ext rfl rfl rfl rfl ?_
            refine ext rfl rfl rfl rfl ?_
            refine ala zr33 hS rfl rfl ?_
            intro b11 w hb11 hS
            refine sa 0 ag33 hS rfl rfl rfl (by kernel_rfl) rfl rfl rfl ?_
            intro w hS
            refine asg rfl rfl rfl ?_
            refine wq_then ?_
            refine rg ?_
            refine mv rfl rfl rfl ?_
            refine bsl (cs := #[]) sl22 hS rfl rfl rfl rfl (by kernel_rfl) ?_
            intro b75 w hb75 hS
            refine mv rfl rfl rfl ?_
            refine app (A := [(b11, .cells (#[I (((dcdD key (encP key d s t e (sprL s (1190 + (((zz).toNat) % 20)))) : Nat) : Int)), U64 (dcdS key (encP key d s t e (sprL s (1190 + (((zz).toNat) % 20))))), U16 (dcdT key (encP key d s t e (sprL s (1190 + (((zz).toNat) % 20))))), U16 (dcdM key (encP key d s t e (sprL s (1190 + (((zz).toNat) % 20))))), .slice a70 n70 c70]) 33), (t50, .cells (tableC c49 key) 60), (c49, .cells (cipherC key) 69), (b5, .cells (#[I (d), U64 (s), U16 (t), U16 (e), .slice a46 (1190 + (((zz).toNat) % 20)) c46]) 33), (b3, .cells (BV key) 35)]) (X := [(b75, .cells (#[]) 5)]) (R := (X70 ++ (X54 ++ (X46 ++ [])))) sl22 (Own.blk (n := 0) rfl (by decide)) (St.toend (A := [(b75, .cells (#[]) 5), (b11, .cells (#[I (((dcdD key (encP key d s t e (sprL s (1190 + (((zz).toNat) % 20)))) : Nat) : Int)), U64 (dcdS key (encP key d s t e (sprL s (1190 + (((zz).toNat) % 20))))), U16 (dcdT key (encP key d s t e (sprL s (1190 + (((zz).toNat) % 20))))), U16 (dcdM key (encP key d s t e (sprL s (1190 + (((zz).toNat) % 20))))), .slice a70 n70 c70]) 33), (t50, .cells (tableC c49 key) 60), (c49, .cells (cipherC key) 69), (b5, .cells (#[I (d), U64 (s), U16 (t), U16 (e), .slice a46 (1190 + (((zz).toNat) % 20)) c46]) 33), (b3, .cells (BV key) 35)]) (R := (X70 ++ (X54 ++ (X46 ++ [])))) hS 0 rfl) rfl rfl rfl rfl (src8 Tryd.underlying22 _ (hO54.cel hS (fun p hp => by simp [hp])) hO54.len8) (by omega) (by omega) ?_
            intro a77 c77 X77 w hO77 hS
            have hO77 : Own _ a77 (0 + n54) c77 (c8 (encP key d s t e (sprL s (1190 + (((zz).toNat) % 20))))) X77 := hO77
            refine appz (q := 1229) (A := [(b11, .cells (#[I (((dcdD key (encP key d s t e (sprL s (1190 + (((zz).toNat) % 20)))) : Nat) : Int)), U64 (dcdS key (encP key d s t e (sprL s (1190 + (((zz).toNat) % 20))))), U16 (dcdT key (encP key d s t e (sprL s (1190 + (((zz).toNat) % 20))))), U16 (dcdM key (encP key d s t e (sprL s (1190 + (((zz).toNat) % 20))))), .slice a70 n70 c70]) 33), (t50, .cells (tableC c49 key) 60), (c49, .cells (cipherC key) 69), (b5, .cells (#[I (d), U64 (s), U16 (t), U16 (e), .slice a46 (1190 + (((zz).toNat) % 20)) c46]) 33), (b3, .cells (BV key) 35)]) (R := (X70 ++ (X54 ++ (X46 ++ [])))) sl22 ⟨_, Tryd.underlying3⟩ hO77 hS rfl rfl rfl rfl (by omega) (by omega) (by omega) (by omega) ?_
            intro a78 c78 X78 w hO78 hS
            try simp only [c8_app] at hO78
            have hle78 := hO78.le
            refine cs cf17 hS rfl rfl rfl rfl rfl (sp_packet_Decode (t50) (c49) (key) (a78) (((0 + n54) + 1229)) (c78) (((encP key d s t e (sprL s (1190 + (((zz).toNat) % 20)))) ++ List.replicate 1229 0)) _ (⟨⟨_, hS.get 1 rfl⟩, _, hS.get 2 rfl⟩) hO78.len8 (by omega) (hO78.cel hS (fun p hp => by simp [hp])) (by omega) (hG.st hS)) ?_
            rintro _ X79 w ⟨a79, n79, c79, rfl, hl79, hm79, hc79, hR79⟩ hS
            have hS := St.tailin (X := X79) hS [(b11, .cells (#[I (((dcdD key (encP key d s t e (sprL s (1190 + (((zz).toNat) % 20)))) : Nat) : Int)), U64 (dcdS key (encP key d s t e (sprL s (1190 + (((zz).toNat) % 20))))), U16 (dcdT key (encP key d s t e (sprL s (1190 + (((zz).toNat) % 20))))), U16 (dcdM key (encP key d s t e (sprL s (1190 + (((zz).toNat) % 20))))), .slice a70 n70 c70]) 33), (t50, .cells (tableC c49 key) 60), (c49, .cells (cipherC key) 69), (b5, .cells (#[I (d), U64 (s), U16 (t), U16 (e), .slice a46 (1190 + (((zz).toNat) % 20)) c46]) 33), (b3, .cells (BV key) 35)] (X78 ++ (X70 ++ (X54 ++ (X46 ++ [])))) rfl
            have hB : (1228 : Nat) < ((encP key d s t e (sprL s (1190 + (zz).toNat % 20))) ++ List.replicate 1229 0).length := by rw [List.length_append, List.length_replicate]; omega
            have hB2 := dcd_long (key := key) hB
            refine mv rfl rfl rfl ?_
            refine ext rfl rfl rfl rfl ?_
            refine ext rfl rfl rfl rfl ?_
            refine ala zr33 hS rfl rfl ?_
            intro b13 w hb13 hS
            refine sa 0 ag33 hS rfl rfl rfl (by kernel_rfl) rfl rfl rfl ?_
            intro w hS
            refine asg rfl rfl rfl ?_
            refine wq_then ?_
            refine rg ?_
            refine mv rfl rfl rfl ?_
            refine eqE (C := 46) (c := (chk d s (1190 + (((zz).toNat) % 20)))) Tryd.underlying43 rfl rfl rfl ?_
            refine mv rfl rfl rfl ?_
            refine spl 84 rfl (fun hb5 => ?_) (fun hb5 => ?_)
            · skip
              try simp only [SB] at hb5
              refine mv rfl rfl rfl ?_
              refine lens Tryd.underlying22 rfl rfl rfl ?_
              refine mv rfl rfl rfl ?_
              refine addi (by omega) (by omega) rfl rfl rfl rfl ?_
              refine eqi rfl rfl rfl rfl ?_
              refine pk_t rfl rfl rfl rfl ?_
              refine mv rfl rfl rfl ?_
              refine spl 91 rfl (fun hb6 => ?_) (fun hb6 => ?_)
              · skip
                try simp only [SB] at hb6
                refine mv rfl rfl rfl ?_
                refine eqE (C := 46) (c := (dcdE key (encP key d s t e (sprL s (1190 + (((zz).toNat) % 20)))))) Tryd.underlying43 rfl rfl rfl ?_
                refine pk_t rfl rfl rfl rfl ?_
                refine mv rfl rfl rfl ?_
                refine spl 95 rfl (fun hb7 => ?_) (fun hb7 => ?_)
                · skip
                  try simp only [SB] at hb7
                  refine la 1 ag33 hS rfl rfl rfl rfl rfl ?_
                  refine la 4 ag33 hS rfl rfl rfl rfl rfl ?_
                  refine cv cf11 hS rfl rfl rfl rfl rfl (sp_mooringref17_Same (((dcdD key (encP key d s t e (sprL s (1190 + (((zz).toNat) % 20)))) : Nat) : Int)) ((dcdS key (encP key d s t e (sprL s (1190 + (((zz).toNat) % 20)))))) ((dcdT key (encP key d s t e (sprL s (1190 + (((zz).toNat) % 20)))))) ((dcdM key (encP key d s t e (sprL s (1190 + (((zz).toNat) % 20)))))) (a70) (n70) (c70) ((dcdP key (encP key d s t e (sprL s (1190 + (((zz).toNat) % 20)))))) (d) (s) (t) (e) (a46) ((1190 + (((zz).toNat) % 20))) (c46) ((sprL s (1190 + (((zz).toNat) % 20)))) _ hl70 (by omega) (hR70 _ _ _ _ hS (fun p hp => by simp [hp])) hO46.len8 (by omega) (hO46.cel hS (fun p hp => by simp [hp]))) ?_
                  intro w hS
                  refine pk_t rfl rfl rfl rfl ?_
                  refine mv rfl rfl rfl ?_
                  refine spl 100 rfl (fun hb8 => ?_) (fun hb8 => ?_)
                  · skip
                    try simp only [SB] at hb8
                    refine mv rfl rfl rfl ?_
                    refine mki cc46 rfl rfl rfl ?_
                    refine eqEE (c := (dcdE key ((encP key d s t e (sprL s (1190 + (((zz).toNat) % 20)))) ++ List.replicate 1229 0))) Tryd.underlying43 ec46 rfl rfl rfl rfl ?_
                    refine pk_t rfl rfl rfl rfl ?_
                    refine asg rfl rfl rfl ?_
                    refine wq_then ?_
                    refine wc_ret ?_
                    refine fin1 (v := .bool (decide ((((dcdE key ((encP key d s t e (sprL s (1190 + (((zz).toNat) % 20)))) ++ List.replicate 1229 0)) : Nat) : Int) = 2 ∧ (dcdE key ((encP key d s t e (sprL s (1190 + (((zz).toNat) % 20)))) ++ List.replicate 1229 0)) ≠ 0))) rfl rfl ?_
                    refine ⟨?_, hS.drop⟩
                    rw [hB2]; rfl
                  · skip
                    try simp only [SB] at hb8
                    rw [hQ] at hb8; cases hb8
                · skip
                  try simp only [SB] at hb7
                  exact absurd hD hb7
              · skip
                try simp only [SB] at hb6
                exfalso; omega
            · skip
              try simp only [SB] at hb5
              exact absurd hE hb5
    · skip
      try simp only [SB] at hb2
      refine no rfl rfl ?_
      refine no rfl rfl ?_
      refine no rfl rfl ?_
      refine pk_f rfl rfl rfl rfl ?_
      refine pk_f rfl rfl rfl rfl ?_
      refine mv rfl rfl rfl ?_
      refine fan (1) (1) Tryd.underlying33 rfl sz24 (by decide) rfl rfl rfl rfl (by omega) ?_
      refine lo 0 sc24 hS rfl rfl rfl rfl rfl ?_
      refine geq rfl rfl rfl rfl ?_
      refine pk_f rfl rfl rfl rfl ?_
      refine wq_then ?_
      refine wc_if rfl (fun hc3 => ?_) (fun hc3 => ?_)
      · skip
        try simp only [SB] at hc3
        refine rg ?_
        refine cv cf6 hS rfl rfl rfl rfl rfl (sp_mooringlaw17_awake _ (hG.st hS)) ?_
        intro w hS
        refine asg rfl rfl rfl ?_
        refine wq_then ?_
        refine wc_ret ?_
        refine q_then_ret ?_
        refine fin1 (v := .bool (true)) rfl rfl ?_
        exact ⟨rfl, hS.drop⟩
      · skip
        try simp only [SB] at hc3
        refine wc_skip ?_
        refine wq_then ?_
        refine rg ?_
        refine mv rfl rfl rfl ?_
        refine cvi Tryd.underlying3 ⟨_, Tryd.underlying31⟩ (by have := (zz).toNat_lt; omega) (by have := (zz).toNat_lt; omega) rfl rfl rfl ?_
        refine remi (by omega) (by omega) rfl rfl rfl rfl ?_
        refine addi (by omega) (by omega) rfl rfl rfl rfl ?_
        refine asg rfl rfl rfl ?_
        refine wq_then ?_
        refine rg ?_
        refine fan (1) (1) Tryd.underlying33 rfl sz24 (by decide) rfl rfl rfl rfl (by omega) ?_
        refine lo 0 sc24 hS rfl rfl rfl rfl rfl ?_
        refine mv rfl rfl rfl ?_
        refine cs cf13 hS rfl rfl rfl rfl rfl (sp_mooringref01_Spread (s) ((1190 + (((zz).toNat) % 20))) _ _ (by omega) (by omega)) ?_
        rintro _ X46 w ⟨a46, c46, rfl, hO46⟩ hS
        have hS := St.tailin (X := X46) hS [(b5, .cells (#[I (d), U64 (s), U16 (t), U16 (e), .slice a n cap]) 33), (b3, .cells (BV key) 35)] [] rfl
        have hle46 := hO46.le
        refine fan (4) (4) Tryd.underlying33 rfl sz22 (by decide) rfl rfl rfl rfl (by omega) ?_
        refine st 0 sz22 hS rfl rfl rfl rfl rfl rfl (by show (4 : Nat) < 5; decide) rfl ?_
        intro w hS
        refine wq_then ?_
        refine rg ?_
        refine la 1 ag35 hS rfl rfl rfl rfl (BV_size _) ?_
        refine cs cf15 hS rfl rfl rfl rfl rfl (sp_fast_New (key) _) ?_
        rintro _ _ w ⟨c49, rfl, rfl⟩ hS
        refine cs cf14 hS rfl rfl rfl rfl rfl (sp_table_New (c49) (_) (key) _ (hS.get 0 rfl)) ?_
        rintro _ _ w ⟨t50, rfl, rfl⟩ hS
        refine asg rfl rfl rfl ?_
        refine wq_then ?_
        refine rg ?_
        refine mv rfl rfl rfl ?_
        refine la 2 ag33 hS rfl rfl rfl rfl rfl ?_
        refine cs cf16 hS rfl rfl rfl rfl rfl (sp_packet_Encode (t50) (c49) (key) (d) (s) (t) (e) (a46) ((1190 + (((zz).toNat) % 20))) (c46) ((sprL s (1190 + (((zz).toNat) % 20)))) _ (⟨⟨_, hS.get 0 rfl⟩, _, hS.get 1 rfl⟩) hO46.len8 (by omega) (hO46.cel hS (fun p hp => by simp [hp])) (by omega) (hG.st hS)) ?_
        rintro _ X54 w ⟨a54, n54, c54, rfl, hO54⟩ hS
        have hS := St.tailin (X := X54) hS [(t50, .cells (tableC c49 key) 60), (c49, .cells (cipherC key) 69), (b5, .cells (#[I (d), U64 (s), U16 (t), U16 (e), .slice a46 (1190 + (((zz).toNat) % 20)) c46]) 33), (b3, .cells (BV key) 35)] (X46 ++ []) rfl
        have hl54 := hO54.len8
        have hc54 := hO54.le
        refine mv rfl rfl rfl ?_
        refine ext rfl rfl rfl rfl ?_
        refine ext rfl rfl rfl rfl ?_
        refine asg rfl rfl rfl ?_
        refine asg rfl rfl rfl ?_
        refine wq_then ?_
        refine wc_seq ?_
        refine rg ?_
        refine mv rfl rfl rfl ?_
        refine gtr rfl rfl rfl rfl ?_
        refine wq_then ?_
        refine wc_if rfl (fun hc4 => ?_) (fun hc4 => ?_)
        · skip
          try simp only [SB] at hc4
          have hE : chk d s (1190 + (zz).toNat % 20) = 2 := pl_big (by omega) (by omega) (by omega)
          rw [encP_bad hO46.len8 (by rw [hE]; decide)] at hl54
          refine rg ?_
          refine mv rfl rfl rfl ?_
          refine lens Tryd.underlying22 rfl rfl rfl ?_
          refine eqi rfl rfl rfl rfl ?_
          refine mv rfl rfl rfl ?_
          refine spl 62 rfl (fun hb9 => ?_) (fun hb9 => ?_)
          · skip
            try simp only [SB] at hb9
            refine mv rfl rfl rfl ?_
            refine mki cc46 rfl rfl rfl ?_
            refine eqEE (c := (chk d s (1190 + (((zz).toNat) % 20)))) Tryd.underlying43 ec46 rfl rfl rfl rfl ?_
            refine pk_t rfl rfl rfl rfl ?_
            refine asg rfl rfl rfl ?_
            refine wq_then ?_
            refine wc_ret ?_
            refine q_then_ret ?_
            refine fin1 (v := .bool (decide ((((chk d s (1190 + (((zz).toNat) % 20))) : Nat) : Int) = 2 ∧ (chk d s (1190 + (((zz).toNat) % 20))) ≠ 0))) rfl rfl ?_
            refine ⟨?_, hS.drop⟩
            rw [hE]; rfl
          · skip
            try simp only [SB] at hb9
            exfalso; omega
        · skip
          try simp only [SB] at hc4
          have hE : chk d s (1190 + (zz).toNat % 20) = 0 := pl_ok (by omega) (by omega) (by omega)
          obtain ⟨hL, hD, hQ⟩ := enc_all (key := key) (t := t) (e := e) hO46.len8 hE
          rw [hL] at hl54
          refine wc_skip ?_
          refine wq_then ?_
          refine rg ?_
          refine mv rfl rfl rfl ?_
          refine mv rfl rfl rfl ?_
          refine cs cf17 hS rfl rfl rfl rfl rfl (sp_packet_Decode (t50) (c49) (key) (a54) (n54) (c54) ((encP key d s t e (sprL s (1190 + (((zz).toNat) % 20))))) _ (⟨⟨_, hS.get 0 rfl⟩, _, hS.get 1 rfl⟩) hO54.len8 (by omega) (hO54.cel hS (fun p hp => by simp [hp])) (by omega) (hG.st hS)) ?_
          rintro _ X70 w ⟨a70, n70, c70, rfl, hl70, hm70, hc70, hR70⟩ hS
          have hS := St.tailin (X := X70) hS [(t50, .cells (tableC c49 key) 60), (c49, .cells (cipherC key) 69), (b5, .cells (#[I (d), U64 (s), U16 (t), U16 (e), .slice a46 (1190 + (((zz).toNat) % 20)) c46]) 33), (b3, .cells (BV key) 35)] (X54 ++ (X46 ++ [])) rfl
          refine mv rfl rfl rfl ?_
          refine ext rfl rfl rfl rfl ?_
          refine ext rfl rfl rfl rfl ?_
          refine ala zr33 hS rfl rfl ?_
          intro b11 w hb11 hS
          refine sa 0 ag33 hS rfl rfl rfl (by kernel_rfl) rfl rfl rfl ?_
          intro w hS
          refine asg rfl rfl rfl ?_
          refine wq_then ?_
          refine rg ?_
          refine mv rfl rfl rfl ?_
          refine bsl (cs := #[]) sl22 hS rfl rfl rfl rfl (by kernel_rfl) ?_
          intro b75 w hb75 hS
          refine mv rfl rfl rfl ?_
          refine app (A := [(b11, .cells (#[I (((dcdD key (encP key d s t e (sprL s (1190 + (((zz).toNat) % 20)))) : Nat) : Int)), U64 (dcdS key (encP key d s t e (sprL s (1190 + (((zz).toNat) % 20))))), U16 (dcdT key (encP key d s t e (sprL s (1190 + (((zz).toNat) % 20))))), U16 (dcdM key (encP key d s t e (sprL s (1190 + (((zz).toNat) % 20))))), .slice a70 n70 c70]) 33), (t50, .cells (tableC c49 key) 60), (c49, .cells (cipherC key) 69), (b5, .cells (#[I (d), U64 (s), U16 (t), U16 (e), .slice a46 (1190 + (((zz).toNat) % 20)) c46]) 33), (b3, .cells (BV key) 35)]) (X := [(b75, .cells (#[]) 5)]) (R := (X70 ++ (X54 ++ (X46 ++ [])))) sl22 (Own.blk (n := 0) rfl (by decide)) (St.toend (A := [(b75, .cells (#[]) 5), (b11, .cells (#[I (((dcdD key (encP key d s t e (sprL s (1190 + (((zz).toNat) % 20)))) : Nat) : Int)), U64 (dcdS key (encP key d s t e (sprL s (1190 + (((zz).toNat) % 20))))), U16 (dcdT key (encP key d s t e (sprL s (1190 + (((zz).toNat) % 20))))), U16 (dcdM key (encP key d s t e (sprL s (1190 + (((zz).toNat) % 20))))), .slice a70 n70 c70]) 33), (t50, .cells (tableC c49 key) 60), (c49, .cells (cipherC key) 69), (b5, .cells (#[I (d), U64 (s), U16 (t), U16 (e), .slice a46 (1190 + (((zz).toNat) % 20)) c46]) 33), (b3, .cells (BV key) 35)]) (R := (X70 ++ (X54 ++ (X46 ++ [])))) hS 0 rfl) rfl rfl rfl rfl (src8 Tryd.underlying22 _ (hO54.cel hS (fun p hp => by simp [hp])) hO54.len8) (by omega) (by omega) ?_
          intro a77 c77 X77 w hO77 hS
          have hO77 : Own _ a77 (0 + n54) c77 (c8 (encP key d s t e (sprL s (1190 + (((zz).toNat) % 20))))) X77 := hO77
          refine appz (q := 1229) (A := [(b11, .cells (#[I (((dcdD key (encP key d s t e (sprL s (1190 + (((zz).toNat) % 20)))) : Nat) : Int)), U64 (dcdS key (encP key d s t e (sprL s (1190 + (((zz).toNat) % 20))))), U16 (dcdT key (encP key d s t e (sprL s (1190 + (((zz).toNat) % 20))))), U16 (dcdM key (encP key d s t e (sprL s (1190 + (((zz).toNat) % 20))))), .slice a70 n70 c70]) 33), (t50, .cells (tableC c49 key) 60), (c49, .cells (cipherC key) 69), (b5, .cells (#[I (d), U64 (s), U16 (t), U16 (e), .slice a46 (1190 + (((zz).toNat) % 20)) c46]) 33), (b3, .cells (BV key) 35)]) (R := (X70 ++ (X54 ++ (X46 ++ [])))) sl22 ⟨_, Tryd.underlying3⟩ hO77 hS rfl rfl rfl rfl (by omega) (by omega) (by omega) (by omega) ?_
          intro a78 c78 X78 w hO78 hS
          try simp only [c8_app] at hO78
          have hle78 := hO78.le
          refine cs cf17 hS rfl rfl rfl rfl rfl (sp_packet_Decode (t50) (c49) (key) (a78) (((0 + n54) + 1229)) (c78) (((encP key d s t e (sprL s (1190 + (((zz).toNat) % 20)))) ++ List.replicate 1229 0)) _ (⟨⟨_, hS.get 1 rfl⟩, _, hS.get 2 rfl⟩) hO78.len8 (by omega) (hO78.cel hS (fun p hp => by simp [hp])) (by omega) (hG.st hS)) ?_
          rintro _ X79 w ⟨a79, n79, c79, rfl, hl79, hm79, hc79, hR79⟩ hS
          have hS := St.tailin (X := X79) hS [(b11, .cells (#[I (((dcdD key (encP key d s t e (sprL s (1190 + (((zz).toNat) % 20)))) : Nat) : Int)), U64 (dcdS key (encP key d s t e (sprL s (1190 + (((zz).toNat) % 20))))), U16 (dcdT key (encP key d s t e (sprL s (1190 + (((zz).toNat) % 20))))), U16 (dcdM key (encP key d s t e (sprL s (1190 + (((zz).toNat) % 20))))), .slice a70 n70 c70]) 33), (t50, .cells (tableC c49 key) 60), (c49, .cells (cipherC key) 69), (b5, .cells (#[I (d), U64 (s), U16 (t), U16 (e), .slice a46 (1190 + (((zz).toNat) % 20)) c46]) 33), (b3, .cells (BV key) 35)] (X78 ++ (X70 ++ (X54 ++ (X46 ++ [])))) rfl
          have hB : (1228 : Nat) < ((encP key d s t e (sprL s (1190 + (zz).toNat % 20))) ++ List.replicate 1229 0).length := by rw [List.length_append, List.length_replicate]; omega
          have hB2 := dcd_long (key := key) hB
          refine mv rfl rfl rfl ?_
          refine ext rfl rfl rfl rfl ?_
          refine ext rfl rfl rfl rfl ?_
          refine ala zr33 hS rfl rfl ?_
          intro b13 w hb13 hS
          refine sa 0 ag33 hS rfl rfl rfl (by kernel_rfl) rfl rfl rfl ?_
          intro w hS
          refine asg rfl rfl rfl ?_
          refine wq_then ?_
          refine rg ?_
          refine mv rfl rfl rfl ?_
          refine eqE (C := 46) (c := (chk d s (1190 + (((zz).toNat) % 20)))) Tryd.underlying43 rfl rfl rfl ?_
          refine mv rfl rfl rfl ?_
          refine spl 84 rfl (fun hb10 => ?_) (fun hb10 => ?_)
          · skip
            try simp only [SB] at hb10
            refine mv rfl rfl rfl ?_
            refine lens Tryd.underlying22 rfl rfl rfl ?_
            refine mv rfl rfl rfl ?_
            refine addi (by omega) (by omega) rfl rfl rfl rfl ?_
            refine eqi rfl rfl rfl rfl ?_
            refine pk_t rfl rfl rfl rfl ?_
            refine mv rfl rfl rfl ?_
            refine spl 91 rfl (fun hb11 => ?_) (fun hb11 => ?_)
            · skip
              try simp only [SB] at hb11
              refine mv rfl rfl rfl ?_
              refine eqE (C := 46) (c := (dcdE key (encP key d s t e (sprL s (1190 + (((zz).toNat) % 20)))))) Tryd.underlying43 rfl rfl rfl ?_
              refine pk_t rfl rfl rfl rfl ?_
              refine mv rfl rfl rfl ?_
              refine spl 95 rfl (fun hb12 => ?_) (fun hb12 => ?_)
              · skip
                try simp only [SB] at hb12
                refine la 1 ag33 hS rfl rfl rfl rfl rfl ?_
                refine la 4 ag33 hS rfl rfl rfl rfl rfl ?_
                refine cv cf11 hS rfl rfl rfl rfl rfl (sp_mooringref17_Same (((dcdD key (encP key d s t e (sprL s (1190 + (((zz).toNat) % 20)))) : Nat) : Int)) ((dcdS key (encP key d s t e (sprL s (1190 + (((zz).toNat) % 20)))))) ((dcdT key (encP key d s t e (sprL s (1190 + (((zz).toNat) % 20)))))) ((dcdM key (encP key d s t e (sprL s (1190 + (((zz).toNat) % 20)))))) (a70) (n70) (c70) ((dcdP key (encP key d s t e (sprL s (1190 + (((zz).toNat) % 20)))))) (d) (s) (t) (e) (a46) ((1190 + (((zz).toNat) % 20))) (c46) ((sprL s (1190 + (((zz).toNat) % 20)))) _ hl70 (by omega) (hR70 _ _ _ _ hS (fun p hp => by simp [hp])) hO46.len8 (by omega) (hO46.cel hS (fun p hp => by simp [hp]))) ?_
                intro w hS
                refine pk_t rfl rfl rfl rfl ?_
                refine mv rfl rfl rfl ?_
                refine spl 100 rfl (fun hb13 => ?_) (fun hb13 => ?_)
                · skip
                  try simp only [SB] at hb13
                  refine mv rfl rfl rfl ?_
                  refine mki cc46 rfl rfl rfl ?_
                  refine eqEE (c := (dcdE key ((encP key d s t e (sprL s (1190 + (((zz).toNat) % 20)))) ++ List.replicate 1229 0))) Tryd.underlying43 ec46 rfl rfl rfl rfl ?_
                  refine pk_t rfl rfl rfl rfl ?_
                  refine asg rfl rfl rfl ?_
                  refine wq_then ?_
                  refine wc_ret ?_
                  refine fin1 (v := .bool (decide ((((dcdE key ((encP key d s t e (sprL s (1190 + (((zz).toNat) % 20)))) ++ List.replicate 1229 0)) : Nat) : Int) = 2 ∧ (dcdE key ((encP key d s t e (sprL s (1190 + (((zz).toNat) % 20)))) ++ List.replicate 1229 0)) ≠ 0))) rfl rfl ?_
                  refine ⟨?_, hS.drop⟩
                  rw [hB2]; rfl
                · skip
                  try simp only [SB] at hb13
                  rw [hQ] at hb13; cases hb13
              · skip
                try simp only [SB] at hb12
                exact absurd hD hb12
            · skip
              try simp only [SB] at hb11
              exfalso; omega
          · skip
            try simp only [SB] at hb10
            exact absurd hE hb10
end Go.Proofs.XX

/- PacketLong -/

namespace Go.Proofs.YtffhheogdmekdaaDoor.packetLongP
open Go Go.ChangeShapes Go.WideShapes Go.ChangeAt Go.RowKit Go.Deep Go.X

theorem own : ownKnob Tryd.prog.godebug = none := by kernel_rfl
theorem laidOut : laidOutB Tryd.prog = true := by kernel_rfl
theorem gTab : Tryd.prog.globalNamed "math/bits.deBruijn64tab" = some 0 := by kernel_rfl
theorem gTabType : (Tryd.prog.globals[0]?).map (·.type) = some 138 := by kernel_rfl
theorem cellsGT : Tryd.prog.cellsOf 138 = 64 := by kernel_rfl
theorem cells5 : Tryd.prog.cellsOf 5 = 1 := by kernel_rfl
theorem rr31 : Tryd.prog.readableRec 31 = true ∧ 31 < Tryd.prog.types.size := ⟨by kernel_rfl, of_decide_eq_true (by kernel_rfl)⟩
theorem rr33 : Tryd.prog.readableRec 33 = true ∧ 33 < Tryd.prog.types.size := ⟨by kernel_rfl, of_decide_eq_true (by kernel_rfl)⟩
theorem rr35 : Tryd.prog.readableRec 35 = true ∧ 35 < Tryd.prog.types.size := ⟨by kernel_rfl, of_decide_eq_true (by kernel_rfl)⟩
theorem ws31 : Tryd.prog.wantsStandIn 31 = false := by kernel_rfl
theorem ws33 : Tryd.prog.wantsStandIn 33 = false := by kernel_rfl
theorem ws35 : Tryd.prog.wantsStandIn 35 = false := by kernel_rfl
theorem cells35 : Tryd.prog.cellsOf 35 = 16 := by kernel_rfl
theorem cells33 : Tryd.prog.cellsOf 33 = 5 := by kernel_rfl
theorem reads : ∀ t ∈ Tryd.f5.params.toList, Tryd.prog.readableRec t = true ∧ t < Tryd.prog.types.size := by
  rw [Tryd.params5]; intro t ht
  simp only [List.mem_cons, List.not_mem_nil, or_false] at ht
  rcases ht with rfl | rfl | rfl
  · exact rr35
  · exact rr31
  · exact rr33

/-- what the row's list gives: the table of the numbers of zeros -/
theorem table {W : World} (h : laidMetH Tryd.prog Rows.packetLongRow.laid W) : Lib.TabIs Tryd.prog W "math/bits.deBruijn64tab" .u8 deBz :=
  Lib.tabIs_of_head (rest := []) gTab gTabType Tryd.underlying138 Tryd.underlying5 cells5 cellsGT h

set_option maxRecDepth 100000 in
/-- what the walk gives, for every argument and every world that holds the table -/
theorem contract (H : Type) (enc : TypeId × Value → H) (W : World) (base : Nat) (args : Array Value) (ds gs : List (DataW H)) (before : List MemPlace)
    (hval : ∀ (j : Nat) t v, Tryd.f5.params[j]? = some t → args[j]? = some v → Value.okWide Tryd.prog W .any base t v)
    (hW : DataW.Whole enc Tryd.prog Tryd.f5.params.toList Rows.packetLongSpec.vars false W args.toList ds gs before) (hL : laidMetH Tryd.prog Rows.packetLongRow.laid W) :
    Calls Tryd.prog 5 args W fun e W' => ∃ v, e = .returned v ∧ Rows.packetLongSpec.post enc Tryd.prog Tryd.f5 false true false false W args v W' := by
  have hW' := hW
  obtain ⟨p, q, hA0, hV, rfl, hfz, hnd⟩ := hW
  have hA : DataW.TrodAll enc Tryd.prog W 0 (fun _ => true) true Tryd.f5.params.toList args.toList ds p := hA0
  have hAk := hA
  have hlt : ∀ x ∈ p, x.block < W.heap.size := fun x hx => hW'.lt x (by simp [hx])
  rw [Tryd.params5] at hA hval
  obtain ⟨v0, vs0, d0, ds0, p0, q0, hargs, rfl, rfl, h0, r0⟩ := trodAll_cons hA
  obtain ⟨v1, vs1, d1, ds1, p1, q1, rfl, rfl, rfl, h1, r1⟩ := trodAll_cons r0
  obtain ⟨v2, vs2, d2, ds2, p2, q2, rfl, rfl, rfl, h2, r2⟩ := trodAll_cons r1
  obtain ⟨rfl, rfl, rfl⟩ := trodAll_nil r2
  obtain ⟨rfl, rfl⟩ := trodVars_none hV
  have hG : Gl 0 W := gl_of_tab gTab (table hL)
  obtain rfl : args = #[v0, v1, v2] := by cases args; simp_all
  obtain ⟨k0, rfl⟩ := arg_array Tryd.underlying35 Tryd.underlying5 cells5 cells35 (hval 0 35 v0 rfl rfl) h0
  obtain ⟨z1, rfl⟩ := arg_u16 Tryd.underlying31 (hval 1 31 v1 rfl rfl) h1
  obtain ⟨dr2, s2, t2, e2, a2, n2, c2, b2, rfl, hd2, hn2, hl2, hc2⟩ := arg_packet Tryd.underlying33 (by kernel_rfl) cells33 Tryd.underlying3 Tryd.underlying24 Tryd.underlying31 Tryd.underlying31 Tryd.underlying22 Tryd.underlying5 cells5 (hval 2 33 v2 rfl rfl) h2
  refine (XX.sp_mooringlaw17_PacketLong k0 z1 dr2 s2 t2 e2 a2 n2 c2 b2 W hn2 hc2 hl2 hd2 hG).mono fun e W' ⟨he, hS⟩ => ?_
  subst he
  have hb := hS.below
  exact ⟨_, rfl, _, _, _, [], _, [], hW', trodAll_cons_mk (shut_bool Tryd.underlying4 _) trodAll_mk0, args_below laidOut reads hAk hb hlt, rfl, hb.frame _, fun h => by cases h⟩

/-- a world for the witness -/
noncomputable def laidWorld (os : Os) : World :=
  { World.holding Tryd.prog os ⟨#[], #[], []⟩ with heap := (World.holding Tryd.prog os ⟨#[], #[], []⟩).heap.modify 0 fun
      | .cells _ t frozen => .cells (deBz.map fun z => Value.int .u8 z).toArray t frozen
      | o => o }
theorem laid_met (os : Os) : laidMet Tryd.prog Rows.packetLongRow.laid ((laidWorld os).forCall (fun _ _ => 0) ⟨#[], #[.agg (List.replicate 16 (Value.int .u8 0)).toArray, .int .u16 0, .agg #[.int .i64 0, .int .u64 0, .int .u16 0, .int .u16 0, .slice none 0 0]], []⟩).memory :=
  laidMet_of_run' 8 (by kernel_rfl) (by kernel_rfl)
theorem reading (os : Os) {H : Type} (enc : TypeId × Value → H) : ∃ places, DataW.whole enc Tryd.prog ((laidWorld os).forCall (fun _ _ => 0) ⟨#[], #[.agg (List.replicate 16 (Value.int .u8 0)).toArray, .int .u16 0, .agg #[.int .i64 0, .int .u64 0, .int .u16 0, .int .u16 0, .slice none 0 0]], []⟩).memory Tryd.f5.params.toList Rows.packetLongSpec.vars false (#[.agg (List.replicate 16 (Value.int .u8 0)).toArray, .int .u16 0, .agg #[.int .i64 0, .int .u64 0, .int .u16 0, .int .u16 0, .slice none 0 0]] : Array Value).toList 8 = some ([.agg (List.replicate 16 (DataW.lit (.int .u8 0))), .lit (.int .u16 0), .agg [.lit (.int .i64 0), .lit (.int .u64 0), .lit (.int .u16 0), .lit (.int .u16 0), .nil]], [], places) :=
  ⟨[], by kernel_rfl⟩

set_option maxRecDepth 100000 in
theorem lifted (os : Os) (started : os.Started) (H : Type) (enc : TypeId × Value → H) (F : Stop.Interp) :
    ReturnsInHanded {} Tryd.checked os 5 .any ((OpenSpec.ofChange Rows.packetLongSpec).preRow enc Tryd.prog Tryd.f5 Rows.packetLongRow.domain false Rows.packetLongRow.laid) (((OpenSpec.ofChange Rows.packetLongSpec).at F).post enc Tryd.prog Tryd.f5 false true false false) := by
  obtain ⟨places, hx⟩ := reading os enc
  refine returnsInHanded_of_row (C := Tryd.checked) (s := OpenSpec.ofChange Rows.packetLongSpec) own started (by kernel_rfl) Tryd.func5
    (witness_row_at (enc := enc) (C := Tryd.checked) false (laidWorld os) #[.agg (List.replicate 16 (Value.int .u8 0)).toArray, .int .u16 0, .agg #[.int .i64 0, .int .u64 0, .int .u16 0, .int .u16 0, .slice none 0 0]] rfl (by kernel_rfl) (by kernel_rfl) (by kernel_rfl)
      (OpenSpec.preRow_of_cond 8 hx (by kernel_rfl) (fun k hk => by cases hk) (by kernel_rfl) (laid_met os))) ?_
  intro W base args ds gs before hval hW _ _ _ hL _ _
  exact contract H enc W base args ds gs before hval hW hL

theorem said : Rows.PacketLongSaid :=
  OpenClaim.holds_of_cond 5 Tryd.f5 rfl rfl rfl rfl rfl rfl rfl ⟨rfl, rfl, rfl, rfl, rfl⟩ rfl rfl rfl rfl rfl (by kernel_rfl) Tryd.func5 (by kernel_rfl)
    (of_decide_eq_true (by kernel_rfl)) (by unfold Func.isWrapper; first | (rw [if_pos (by decide +kernel)]; kernel_rfl) | (rw [if_neg (by decide +kernel)]; exact ⟨rfl, rfl⟩))
    (fun os started H enc _ F => by rw [OpenClaim.pre_eq_preRow]; exact lifted os started H enc F)

theorem plain (f : FuncId) (fn : Func) (hf : Tryd.pinned.checked.prog.funcNamed "mooring/mooringlaw17.PacketLong" = some f) (hfn : Tryd.pinned.checked.prog.funcs[f]? = some fn) :
    true = Tryd.pinned.checked.prog.looks [] ∧ ∀ (j : Nat) t, fn.params[j]? = some t → Tryd.pinned.checked.prog.wantsStandIn t = false := by
  obtain rfl : f = 5 := Option.some.inj ((show Tryd.prog.funcNamed "mooring/mooringlaw17.PacketLong" = some 5 by kernel_rfl).symm.trans hf) |>.symm
  obtain rfl : fn = Tryd.f5 := (Option.some.inj (Tryd.func5.symm.trans hfn)).symm
  refine ⟨by kernel_rfl, fun j t ht => ?_⟩
  rw [Tryd.params5] at ht
  have hm := Array.mem_of_getElem? ht
  simp only [List.mem_toArray, List.mem_cons, List.not_mem_nil, or_false] at hm
  rcases hm with rfl | rfl | rfl
  · exact ws35
  · exact ws31
  · exact ws33
end Go.Proofs.YtffhheogdmekdaaDoor.packetLongP
namespace Go.Proofs.YtffhheogdmekdaaDoor
open Go
/-- the tied card -/
theorem packetLong_card : Rows.PacketLongCardSaid :=
  Claim7.holds_tied_plain_at .later [] _ _ _ _ packetLongP.said (fun _ h => by cases h) (by kernel_rfl) (fun _ h => by cases h) packetLong_row_tie rfl ⟨rfl, rfl⟩ (by kernel_rfl) rfl packetLongP.plain (by kernel_rfl)
#print axioms packetLong_card
end Go.Proofs.YtffhheogdmekdaaDoor
