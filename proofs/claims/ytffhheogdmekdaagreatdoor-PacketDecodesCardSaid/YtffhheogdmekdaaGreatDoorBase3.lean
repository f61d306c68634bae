/- Part 3 of the ground of this seat's proofs: rules of a calculus of walks, and what the functions of the lower layers compute; no conditions beyond those that each statement bears. -/
import Derived.Test.YtffhheogdmekdaaGreatDoorBase2
set_option linter.unusedVariables false
set_option linter.unusedSimpArgs false
set_option linter.unnecessarySimpa false
/- walks -/
namespace Go.Proofs.XZ
open Go Go.X Go.Proofs
set_option maxRecDepth 100000 in
theorem sp_keys_Expand (key : V8 16) (w0 : World) : Calls Tryz.prog 24 #[.agg (BV key)] w0 (Ret w0 (.agg (BV (expand key)))) := by
  refine enter (args := [.agg (BV key)]) Tryz.func24 rfl rfl ?_
  refine startw fun w hS => ?_
  refine rg ?_
  refine bxa hS rfl rfl rfl ?_
  intro b1 w hb1 hS
  refine ala zr45 hS rfl rfl ?_
  intro b2 w hb2 hS
  refine wq_then ?_
  refine rg ?_
  refine la 1 ag22 hS rfl rfl rfl rfl (BV_size _) ?_
  refine bd (cs := BV (put8 (Vector.replicate 176 0) 0 key)) rfl rfl rfl ((bu45 _).trans (fill_w (off := 0) (size := 16) rfl (BV_size _) (le_sz (a := 176) (BV_size _) (by omega)) (BV_put _ _ _ (by omega)) <| rfl)) ?_
  refine ala zr45 hS rfl rfl ?_
  intro b3 w hb3 hS
  refine sa 0 ag45 hS rfl rfl rfl (BV_one _) rfl (BV_size _) (BV_size _) ?_
  intro w hS
  refine wq_then ?_
  refine wc_seq ?_
  refine rg ?_
  refine mv rfl rfl rfl ?_
  refine wq_then ?_
  refine wc_block ?_
  refine wc_loop (σ := Nat) (fun k => [(2, Ptr b2 0), (3, Ptr b3 0), (7, I ((k : Int)))])
    (fun k w => (k ≤ 10) ∧ St w0 [] [(b3, .cells (BV (expandL key k)) 45), (b2, .cells (BV (Vector.replicate 176 0)) 45), (b1, .cells (BV key) 22)] w) (fun k => 10 - k) 0 ⟨rfl, rfl, rfl, trivial⟩ ⟨by omega, hS⟩ ?_
  rintro k w ⟨hk, hS⟩
  refine rg ?_
  refine lss rfl rfl rfl rfl ?_
  refine wq_then ?_
  refine wc_seq ?_
  refine wc_if rfl (fun hc1 => ?_) (fun hc1 => ?_)
  · skip
    try simp only [SB] at hc1
    refine wc_skip ?_
    refine wq_then ?_
    refine wc_seq ?_
    refine wc_block ?_
    refine rg ?_
    refine mv rfl rfl rfl ?_
    refine asg rfl rfl rfl ?_
    refine wq_then ?_
    refine wc_region ?_
    refine mv rfl rfl rfl ?_
    refine addi (by omega) (by omega) rfl rfl rfl rfl ?_
    refine mv rfl rfl rfl ?_
    refine mv rfl rfl rfl ?_
    refine ian (k) (k * 16) Tryz.underlying45 sz22 rfl rfl rfl rfl (by omega) (by omega) (by omega) ?_
    refine lp (u := .agg (BV (seg8 16 (expandL key k) (k * 16)))) 0 ag22 hS rfl rfl rfl rfl (by rw [BV_size]; omega) (BV_extract 16 _ (k * 16) (by omega)) rfl ?_
    refine cv cf52 hS rfl rfl rfl rfl rfl (sp_keys_Next (k) ((seg8 16 (expandL key k) (k * 16))) _ _ (by omega) (by omega)) ?_
    intro w hS
    refine mv rfl rfl rfl ?_
    refine ext rfl rfl rfl rfl ?_
    refine ext rfl rfl rfl rfl ?_
    refine ian (k + 1) ((k + 1) * 16) Tryz.underlying45 sz22 rfl rfl rfl rfl (by omega) (by omega) (by omega) ?_
    refine spp (cs' := BV (put8 (expandL key k) ((k + 1) * 16) (nextK k (seg8 16 (expandL key k) (k * 16))))) 0 ag22 hS rfl rfl rfl (BV_one _) rfl (le_sz (a := 176) (BV_size _) (by omega)) (BV_size _) (BV_put _ _ _ (by omega)) ?_
    intro w hS
    refine q_block_norm ?_
    refine wq_then ?_
    refine wc_region ?_
    refine addi (by omega) (by omega) rfl rfl rfl rfl ?_
    refine mv rfl rfl rfl ?_
    refine again_q (k + 1) ⟨rfl, rfl, lkI rfl (by first | omega | rfl), trivial⟩ ⟨by omega, hS⟩ (by omega)
  · skip
    try simp only [SB] at hc1
    refine wc_exit ?_
    refine q_then_exit ?_
    refine q_then_exit ?_
    refine q_block_hit ?_
    refine wq_then ?_
    refine rg ?_
    refine la 0 ag45 hS rfl rfl rfl rfl (BV_size _) ?_
    refine sa 1 ag45 hS rfl rfl rfl (BV_one _) rfl (BV_size _) (BV_size _) ?_
    intro w hS
    refine wq_then ?_
    refine wc_ret ?_
    refine fin1 (v := .agg (BV (expandL key k))) rfl ⟨_, rfl, lv_a ag45 (hS.get 1 rfl) (BV_size _)⟩ ?_
    refine ⟨?_, hS.drop⟩
    have hk4 : k = 10 := by omega
    subst hk4; rfl
end Go.Proofs.XZ

/- walks -/
namespace Go.Proofs.XZ
open Go Go.X Go.Proofs
set_option maxRecDepth 100000 in
theorem sp_cipher_each (fid : Nat) (cap : List Value) (f : Nat → UInt8) (w0 : World) (hcf : Callable Tryz.prog fid) (hf : ∀ (k : Nat) (w : World), k < 16 → St w0 [] [] w → Calls Tryz.prog fid (I (k : Int) :: cap).toArray w (Ret w (U8 (f k)))) : Calls Tryz.prog 74 #[.func (.func fid) #[] cap.toArray] w0 (Ret w0 (.agg (BV (Vector.ofFn (n := 16) fun i => f i.val)))) := by
  refine enter (args := [.func (.func fid) #[] cap.toArray]) Tryz.func74 rfl rfl ?_
  refine startw fun w hS => ?_
  refine rg ?_
  refine ala zr22 hS rfl rfl ?_
  intro b2 w hb2 hS
  refine wq_then ?_
  refine rg ?_
  refine ala zr22 hS rfl rfl ?_
  intro b3 w hb3 hS
  refine wq_then ?_
  refine wc_seq ?_
  refine rg ?_
  refine mv rfl rfl rfl ?_
  refine wq_then ?_
  refine wc_block ?_
  refine wc_loop (σ := Nat) (fun k => [(0, .func (.func fid) #[] cap.toArray), (2, Ptr b2 0), (3, Ptr b3 0), (5, I ((k : Int)))])
    (fun k w => (k ≤ 16) ∧ St w0 [] [(b3, .cells (BV (fill8 16 f (Vector.replicate 16 0) k)) 22), (b2, .cells (BV (Vector.replicate 16 0)) 22)] w) (fun k => 16 - k) 0 ⟨rfl, rfl, rfl, rfl, trivial⟩ ⟨by omega, (by simp only [Nat.zero_mul, Nat.add_zero, fill8_0, fill32_0]; exact hS)⟩ ?_
  rintro k w ⟨hk, hS⟩
  refine rg ?_
  refine lss rfl rfl rfl rfl ?_
  refine wq_then ?_
  refine wc_seq ?_
  refine wc_if rfl (fun hc1 => ?_) (fun hc1 => ?_)
  · skip
    try simp only [SB] at hc1
    refine wc_skip ?_
    refine wq_then ?_
    refine wc_seq ?_
    refine wc_block ?_
    refine rg ?_
    refine mv rfl rfl rfl ?_
    refine asg rfl rfl rfl ?_
    refine wq_then ?_
    refine wc_region ?_
    refine mv rfl rfl rfl ?_
    refine mv rfl rfl rfl ?_
    refine mv rfl rfl rfl ?_
    refine cv hcf hS rfl rfl rfl rfl rfl (hf k w (by omega) (hS.drop)) ?_
    intro w hS
    refine ian (k) (k) Tryz.underlying22 sz5 rfl rfl rfl rfl (by omega) (by omega) (by omega) ?_
    refine st (cs' := BV (fill8 16 f (Vector.replicate 16 0) (k + 1))) 0 sz5 hS rfl rfl rfl rfl rfl rfl (by rw [BV_size]; omega) (by rw [BV_set]; exact congrArg BV (fill8_succ f (Vector.replicate 16 0) k)) ?_
    intro w hS
    refine q_block_norm ?_
    refine wq_then ?_
    refine wc_region ?_
    refine addi (by omega) (by omega) rfl rfl rfl rfl ?_
    refine mv rfl rfl rfl ?_
    refine again_q (k + 1) ⟨rfl, rfl, rfl, lkI rfl (by first | omega | rfl), trivial⟩ ⟨by omega, hS⟩ (by omega)
  · skip
    try simp only [SB] at hc1
    refine wc_exit ?_
    refine q_then_exit ?_
    refine q_then_exit ?_
    refine q_block_hit ?_
    refine wq_then ?_
    refine rg ?_
    refine la 0 ag22 hS rfl rfl rfl rfl (BV_size _) ?_
    refine sa 1 ag22 hS rfl rfl rfl (BV_one _) rfl (BV_size _) (BV_size _) ?_
    intro w hS
    refine wq_then ?_
    refine wc_ret ?_
    refine fin1 (v := .agg (BV (fill8 16 f (Vector.replicate 16 0) k))) rfl ⟨_, rfl, lv_a ag22 (hS.get 1 rfl) (BV_size _)⟩ ?_
    refine ⟨?_, hS.drop⟩
    have hk4 : k = 16 := by omega
    subst hk4; rw [fill8_n]
end Go.Proofs.XZ

/- walks -/
namespace Go.Proofs.XZ
open Go Go.X Go.Proofs
set_option maxRecDepth 100000 in
theorem sp_field_Sum (a : Option Addr) (n cap : Nat) (bs : List UInt8) (w0 : World) (hn : bs.length = n) (hN : n ≤ 1000000) (hc : Cel w0 a (c8 bs)) : Calls Tryz.prog 103 #[.slice a n cap] w0 (Ret w0 (U8 (xorl bs))) := by
  refine enter (args := [.slice a n cap]) Tryz.func103 rfl rfl ?_
  refine startw fun w hS => ?_
  refine rg ?_
  refine asg rfl rfl rfl ?_
  refine wq_then ?_
  refine rg ?_
  refine asg rfl rfl rfl ?_
  refine wq_then ?_
  refine wc_seq ?_
  refine rg ?_
  refine mv rfl rfl rfl ?_
  refine lens Tryz.underlying25 rfl rfl rfl ?_
  refine mv rfl rfl rfl ?_
  refine wq_then ?_
  refine wc_block ?_
  refine wc_loop (σ := Nat) (fun k => [(2, U8 (0)), (3, U8 (xorl (bs.take k))), (6, .slice a n cap), (7, I (((n : Nat) : Int))), (8, I ((k : Int)))])
    (fun k w => (k ≤ n) ∧ St w0 [] [] w) (fun k => n - k) 0 ⟨rfl, rfl, rfl, rfl, rfl, trivial⟩ ⟨by omega, hS⟩ ?_
  rintro k w ⟨hk, hS⟩
  refine rg ?_
  refine lss rfl rfl rfl rfl ?_
  refine wq_then ?_
  refine wc_seq ?_
  refine wc_if rfl (fun hc1 => ?_) (fun hc1 => ?_)
  · skip
    try simp only [SB] at hc1
    refine wc_skip ?_
    refine wq_then ?_
    refine wc_seq ?_
    refine wc_block ?_
    refine rg ?_
    refine slx (k) Tryz.underlying25 sz5 rfl rfl rfl rfl (by omega) (by omega) ((hc.st hS).some8 (j := k) (by first | omega | (simp; done) | (simp; omega))) ?_
    refine ldx sc5 rfl rfl rfl (hc.st hS) (by first | omega | (simp; done) | (simp; omega)) ?_
    refine asg rfl rfl rfl ?_
    refine wq_then ?_
    refine wc_region ?_
    refine mv rfl rfl rfl ?_
    refine mv rfl rfl rfl ?_
    refine xor8 rfl rfl rfl rfl ?_
    refine asg rfl rfl rfl ?_
    refine q_block_norm ?_
    refine wq_then ?_
    refine wc_region ?_
    refine addi (by omega) (by omega) rfl rfl rfl rfl ?_
    refine mv rfl rfl rfl ?_
    refine again_q (k + 1) ⟨rfl, lkU8 rfl ((xorl_take bs k (by omega)).symm), rfl, rfl, lkI rfl (by first | omega | rfl), trivial⟩ ⟨by omega, hS⟩ (by omega)
  · skip
    try simp only [SB] at hc1
    have he : k = bs.length := by omega
    refine wc_exit ?_
    refine q_then_exit ?_
    refine q_then_exit ?_
    refine q_block_hit ?_
    refine wq_then ?_
    refine rg ?_
    refine mv rfl rfl rfl ?_
    refine asg rfl rfl rfl ?_
    refine wq_then ?_
    refine wc_ret ?_
    refine fin1 (v := U8 (xorl (bs.take k))) rfl rfl ?_
    refine ⟨?_, hS.drop⟩
    rw [he, List.take_length]
end Go.Proofs.XZ

/- walks -/
namespace Go.Proofs.XZ
open Go Go.X Go.Proofs
set_option maxRecDepth 100000 in
theorem sp_field_Dot (a b : V8 4) (w0 : World) : Calls Tryz.prog 76 #[.agg (BV a), .agg (BV b)] w0 (Ret w0 (U8 (dot a b))) := by
  refine enter (args := [.agg (BV a), .agg (BV b)]) Tryz.func76 rfl rfl ?_
  refine startw fun w hS => ?_
  refine rg ?_
  refine bxa hS rfl rfl rfl ?_
  intro b2 w hb2 hS
  refine bxa hS rfl rfl rfl ?_
  intro b3 w hb3 hS
  refine asg rfl rfl rfl ?_
  refine wq_then ?_
  refine rd mo 22 (fun w => St w0 [] [(b3, .cells (BV b) 107), (b2, .cells (BV a) 107)] w) ?_
  have hS := hS.drew
  refine dq 0 rfl (by kernel_rfl) (by kernel_rfl) (by kernel_rfl) rfl rfl (fun w hS => ian (0) (0) Tryz.underlying107 sz5 rfl rfl rfl rfl (by omega) (by omega) (by omega) ⟨rfl, rfl⟩) hS ?_
  refine dq 1 rfl (by kernel_rfl) (by kernel_rfl) (by kernel_rfl) rfl rfl (fun w hS => lo 1 sc5 hS rfl rfl rfl rfl (BV_get _ 0 (by omega)) ⟨rfl, rfl⟩) hS ?_
  refine dq 2 rfl (by kernel_rfl) (by kernel_rfl) (by kernel_rfl) rfl rfl (fun w hS => ian (0) (0) Tryz.underlying107 sz5 rfl rfl rfl rfl (by omega) (by omega) (by omega) ⟨rfl, rfl⟩) hS ?_
  refine dq 3 rfl (by kernel_rfl) (by kernel_rfl) (by kernel_rfl) rfl rfl (fun w hS => lo 0 sc5 hS rfl rfl rfl rfl (BV_get _ 0 (by omega)) ⟨rfl, rfl⟩) hS ?_
  refine dq 5 rfl (by kernel_rfl) (by kernel_rfl) (by kernel_rfl) rfl rfl (fun w hS => ian (1) (1) Tryz.underlying107 sz5 rfl rfl rfl rfl (by omega) (by omega) (by omega) ⟨rfl, rfl⟩) hS ?_
  refine dq 6 rfl (by kernel_rfl) (by kernel_rfl) (by kernel_rfl) rfl rfl (fun w hS => lo 1 sc5 hS rfl rfl rfl rfl (BV_get _ 1 (by omega)) ⟨rfl, rfl⟩) hS ?_
  refine dq 7 rfl (by kernel_rfl) (by kernel_rfl) (by kernel_rfl) rfl rfl (fun w hS => ian (1) (1) Tryz.underlying107 sz5 rfl rfl rfl rfl (by omega) (by omega) (by omega) ⟨rfl, rfl⟩) hS ?_
  refine dq 8 rfl (by kernel_rfl) (by kernel_rfl) (by kernel_rfl) rfl rfl (fun w hS => lo 0 sc5 hS rfl rfl rfl rfl (BV_get _ 1 (by omega)) ⟨rfl, rfl⟩) hS ?_
  refine dq 10 rfl (by kernel_rfl) (by kernel_rfl) (by kernel_rfl) rfl rfl (fun w hS => ian (2) (2) Tryz.underlying107 sz5 rfl rfl rfl rfl (by omega) (by omega) (by omega) ⟨rfl, rfl⟩) hS ?_
  refine dq 11 rfl (by kernel_rfl) (by kernel_rfl) (by kernel_rfl) rfl rfl (fun w hS => lo 1 sc5 hS rfl rfl rfl rfl (BV_get _ 2 (by omega)) ⟨rfl, rfl⟩) hS ?_
  refine dq 12 rfl (by kernel_rfl) (by kernel_rfl) (by kernel_rfl) rfl rfl (fun w hS => ian (2) (2) Tryz.underlying107 sz5 rfl rfl rfl rfl (by omega) (by omega) (by omega) ⟨rfl, rfl⟩) hS ?_
  refine dq 13 rfl (by kernel_rfl) (by kernel_rfl) (by kernel_rfl) rfl rfl (fun w hS => lo 0 sc5 hS rfl rfl rfl rfl (BV_get _ 2 (by omega)) ⟨rfl, rfl⟩) hS ?_
  refine dq 15 rfl (by kernel_rfl) (by kernel_rfl) (by kernel_rfl) rfl rfl (fun w hS => ian (3) (3) Tryz.underlying107 sz5 rfl rfl rfl rfl (by omega) (by omega) (by omega) ⟨rfl, rfl⟩) hS ?_
  refine dq 16 rfl (by kernel_rfl) (by kernel_rfl) (by kernel_rfl) rfl rfl (fun w hS => lo 1 sc5 hS rfl rfl rfl rfl (BV_get _ 3 (by omega)) ⟨rfl, rfl⟩) hS ?_
  refine dq 17 rfl (by kernel_rfl) (by kernel_rfl) (by kernel_rfl) rfl rfl (fun w hS => ian (3) (3) Tryz.underlying107 sz5 rfl rfl rfl rfl (by omega) (by omega) (by omega) ⟨rfl, rfl⟩) hS ?_
  refine dq 18 rfl (by kernel_rfl) (by kernel_rfl) (by kernel_rfl) rfl rfl (fun w hS => lo 0 sc5 hS rfl rfl rfl rfl (BV_get _ 3 (by omega)) ⟨rfl, rfl⟩) hS ?_
  refine dl 4 rfl (by kernel_rfl) ?_
  refine cv cf51 hS rfl rfl rfl rfl rfl (sp_field_Mul ((gv a 0)) ((gv b 0)) _) ?_
  intro w hS
  refine ⟨fun _ => hS, ?_⟩
  refine dl 9 rfl (by kernel_rfl) ?_
  refine cv cf51 hS rfl rfl rfl rfl rfl (sp_field_Mul ((gv a 1)) ((gv b 1)) _) ?_
  intro w hS
  refine ⟨fun _ => hS, ?_⟩
  refine dl 14 rfl (by kernel_rfl) ?_
  refine cv cf51 hS rfl rfl rfl rfl rfl (sp_field_Mul ((gv a 2)) ((gv b 2)) _) ?_
  intro w hS
  refine ⟨fun _ => hS, ?_⟩
  refine dl 19 rfl (by kernel_rfl) ?_
  refine cv cf51 hS rfl rfl rfl rfl rfl (sp_field_Mul ((gv a 3)) ((gv b 3)) _) ?_
  intro w hS
  refine ⟨fun _ => hS, ?_⟩
  refine dl 20 rfl (by kernel_rfl) ?_
  refine bsl (cs := #[U8 (mul (gv a 0) (gv b 0)), U8 (mul (gv a 1) (gv b 1)), U8 (mul (gv a 2) (gv b 2)), U8 (mul (gv a 3) (gv b 3))]) sl25 hS rfl rfl rfl rfl (by kernel_rfl) ?_
  intro b25 w hb25 hS
  refine ⟨fun _ => hS.tl, ?_⟩
  refine dl 21 rfl (by kernel_rfl) ?_
  refine cv cf103 hS rfl rfl rfl rfl rfl (sp_field_Sum ((some ⟨b25, 0, none⟩)) (4) (4) (([mul (gv a 0) (gv b 0), mul (gv a 1) (gv b 1), mul (gv a 2) (gv b 2), mul (gv a 3) (gv b 3)])) _ (by first | rfl | omega | (simp; omega) | (simp; done)) (by omega) (Cel.lb (l := [mul (gv a 0) (gv b 0), mul (gv a 1) (gv b 1), mul (gv a 2) (gv b 2), mul (gv a 3) (gv b 3)]) (hS.get 0 rfl))) ?_
  intro w hS
  refine ⟨fun _ => hS.tl, ?_⟩
  refine dl 22 rfl (by kernel_rfl) ?_
  refine asg rfl rfl rfl ?_
  refine ⟨fun h => (by cases h), ?_⟩
  refine de (by kernel_rfl) ?_
  refine wq_then ?_
  refine wc_ret ?_
  refine fin1 (v := U8 (xorl ([mul (gv a 0) (gv b 0), mul (gv a 1) (gv b 1), mul (gv a 2) (gv b 2), mul (gv a 3) (gv b 3)]))) rfl rfl ?_
  exact ⟨rfl, hS.drop⟩
end Go.Proofs.XZ

/- walks -/
namespace Go.Proofs.XZ
open Go Go.X Go.Proofs
set_option maxRecDepth 100000 in
theorem sp_cipher_columns_1 (i rb bb E1 E2 : Nat) (row : V8 4) (b : V8 16) (i_ : Int) (w0 : World) (hi_ : i_ = (i : Int)) (hi : i < 16) (hr : w0.heap[rb]? = some (.cells (BV row) E1)) (hb : w0.heap[bb]? = some (.cells (BV b) E2)) : Calls Tryz.prog 75 #[I i_, Ptr rb 0, Ptr bb 0] w0 (Ret w0 (U8 (colf row b i))) := by
  subst hi_
  refine enter (args := [I (i : Int), Ptr rb 0, Ptr bb 0]) Tryz.func75 rfl rfl ?_
  refine startw fun w hS => ?_
  refine rg ?_
  refine asg rfl rfl rfl ?_
  refine wq_then ?_
  refine rg ?_
  refine mv rfl rfl rfl ?_
  refine andni (D := 4) 2 (by decide) (by decide) (by decide) (by omega) (by omega) rfl rfl rfl rfl ?_
  refine mv rfl rfl rfl ?_
  refine andi (D := 4) 2 (by decide) (by decide) (by decide) rfl rfl rfl rfl ?_
  refine asg rfl rfl rfl ?_
  refine asg rfl rfl rfl ?_
  refine wq_then ?_
  refine rd mo 22 (fun w => St w0 [] [] w) ?_
  have hS := hS.drew
  refine dq 0 rfl (by kernel_rfl) (by kernel_rfl) (by kernel_rfl) rfl rfl (fun w hS => mv rfl rfl rfl ⟨rfl, rfl⟩) hS ?_
  refine dq 1 rfl (by kernel_rfl) (by kernel_rfl) (by kernel_rfl) rfl rfl (fun w hS => subi (by omega) (by omega) rfl rfl rfl rfl ⟨rfl, rfl⟩) hS ?_
  refine dq 2 rfl (by kernel_rfl) (by kernel_rfl) (by kernel_rfl) rfl rfl (fun w hS => andi (D := 4) 2 (by decide) (by decide) (by decide) rfl rfl rfl rfl ⟨rfl, rfl⟩) hS ?_
  refine dq 3 rfl (by kernel_rfl) (by kernel_rfl) (by kernel_rfl) rfl rfl (fun w hS => ian ((4 - (i % 4)) % 4) (((4 - (i % 4)) % 4)) Tryz.underlying107 sz5 rfl rfl rfl rfl (by omega) (by omega) (by omega) ⟨rfl, rfl⟩) hS ?_
  refine dq 4 rfl (by kernel_rfl) (by kernel_rfl) (by kernel_rfl) rfl rfl (fun w hS => lod hr List.not_mem_nil sc5 hS rfl rfl rfl (BV_get _ ((4 - (i % 4)) % 4) (by omega)) ⟨rfl, rfl⟩) hS ?_
  refine dq 5 rfl (by kernel_rfl) (by kernel_rfl) (by kernel_rfl) rfl rfl (fun w hS => mv rfl rfl rfl ⟨rfl, rfl⟩) hS ?_
  refine dq 6 rfl (by kernel_rfl) (by kernel_rfl) (by kernel_rfl) rfl rfl (fun w hS => subi (by omega) (by omega) rfl rfl rfl rfl ⟨rfl, rfl⟩) hS ?_
  refine dq 7 rfl (by kernel_rfl) (by kernel_rfl) (by kernel_rfl) rfl rfl (fun w hS => andi (D := 4) 2 (by decide) (by decide) (by decide) rfl rfl rfl rfl ⟨rfl, rfl⟩) hS ?_
  refine dq 8 rfl (by kernel_rfl) (by kernel_rfl) (by kernel_rfl) rfl rfl (fun w hS => ian ((5 - (i % 4)) % 4) (((5 - (i % 4)) % 4)) Tryz.underlying107 sz5 rfl rfl rfl rfl (by omega) (by omega) (by omega) ⟨rfl, rfl⟩) hS ?_
  refine dq 9 rfl (by kernel_rfl) (by kernel_rfl) (by kernel_rfl) rfl rfl (fun w hS => lod hr List.not_mem_nil sc5 hS rfl rfl rfl (BV_get _ ((5 - (i % 4)) % 4) (by omega)) ⟨rfl, rfl⟩) hS ?_
  refine dq 10 rfl (by kernel_rfl) (by kernel_rfl) (by kernel_rfl) rfl rfl (fun w hS => mv rfl rfl rfl ⟨rfl, rfl⟩) hS ?_
  refine dq 11 rfl (by kernel_rfl) (by kernel_rfl) (by kernel_rfl) rfl rfl (fun w hS => subi (by omega) (by omega) rfl rfl rfl rfl ⟨rfl, rfl⟩) hS ?_
  refine dq 12 rfl (by kernel_rfl) (by kernel_rfl) (by kernel_rfl) rfl rfl (fun w hS => andi (D := 4) 2 (by decide) (by decide) (by decide) rfl rfl rfl rfl ⟨rfl, rfl⟩) hS ?_
  refine dq 13 rfl (by kernel_rfl) (by kernel_rfl) (by kernel_rfl) rfl rfl (fun w hS => ian ((6 - (i % 4)) % 4) (((6 - (i % 4)) % 4)) Tryz.underlying107 sz5 rfl rfl rfl rfl (by omega) (by omega) (by omega) ⟨rfl, rfl⟩) hS ?_
  refine dq 14 rfl (by kernel_rfl) (by kernel_rfl) (by kernel_rfl) rfl rfl (fun w hS => lod hr List.not_mem_nil sc5 hS rfl rfl rfl (BV_get _ ((6 - (i % 4)) % 4) (by omega)) ⟨rfl, rfl⟩) hS ?_
  refine dq 15 rfl (by kernel_rfl) (by kernel_rfl) (by kernel_rfl) rfl rfl (fun w hS => mv rfl rfl rfl ⟨rfl, rfl⟩) hS ?_
  refine dq 16 rfl (by kernel_rfl) (by kernel_rfl) (by kernel_rfl) rfl rfl (fun w hS => subi (by omega) (by omega) rfl rfl rfl rfl ⟨rfl, rfl⟩) hS ?_
  refine dq 17 rfl (by kernel_rfl) (by kernel_rfl) (by kernel_rfl) rfl rfl (fun w hS => andi (D := 4) 2 (by decide) (by decide) (by decide) rfl rfl rfl rfl ⟨rfl, rfl⟩) hS ?_
  refine dq 18 rfl (by kernel_rfl) (by kernel_rfl) (by kernel_rfl) rfl rfl (fun w hS => ian ((7 - (i % 4)) % 4) (((7 - (i % 4)) % 4)) Tryz.underlying107 sz5 rfl rfl rfl rfl (by omega) (by omega) (by omega) ⟨rfl, rfl⟩) hS ?_
  refine dq 19 rfl (by kernel_rfl) (by kernel_rfl) (by kernel_rfl) rfl rfl (fun w hS => lod hr List.not_mem_nil sc5 hS rfl rfl rfl (BV_get _ ((7 - (i % 4)) % 4) (by omega)) ⟨rfl, rfl⟩) hS ?_
  refine dq 20 rfl (by kernel_rfl) (by kernel_rfl) (by kernel_rfl) rfl rfl (fun w hS => bd (cs := BV (#v[gv row ((4 - (i % 4)) % 4), gv row ((5 - (i % 4)) % 4), gv row ((6 - (i % 4)) % 4), gv row ((7 - (i % 4)) % 4)])) rfl rfl rfl (by kernel_rfl) ⟨rfl, rfl⟩) hS ?_
  refine dl 21 rfl (by kernel_rfl) ?_
  refine ala zr107 hS rfl rfl ?_
  intro b7 w hb7 hS
  refine ⟨fun _ => hS.tl, ?_⟩
  refine dl 22 rfl (by kernel_rfl) ?_
  refine sa 0 ag107 hS rfl rfl rfl (BV_one _) rfl (BV_size _) (BV_size _) ?_
  intro w hS
  refine ⟨fun h => (by cases h), ?_⟩
  refine de (by kernel_rfl) ?_
  refine wq_then ?_
  refine rd mo 8 (fun w => St w0 [] [(b7, .cells (BV (#v[gv row ((4 - (i % 4)) % 4), gv row ((5 - (i % 4)) % 4), gv row ((6 - (i % 4)) % 4), gv row ((7 - (i % 4)) % 4)])) 107)] w) ?_
  have hS := hS.drew
  refine dq 0 rfl (by kernel_rfl) (by kernel_rfl) (by kernel_rfl) rfl rfl (fun w hS => la 0 ag107 hS rfl rfl rfl rfl (BV_size _) ⟨rfl, rfl⟩) hS ?_
  refine dq 1 rfl (by kernel_rfl) (by kernel_rfl) (by kernel_rfl) rfl rfl (fun w hS => mv rfl rfl rfl ⟨rfl, rfl⟩) hS ?_
  refine dq 2 rfl (by kernel_rfl) (by kernel_rfl) (by kernel_rfl) rfl rfl (fun w hS => mv rfl rfl rfl ⟨rfl, rfl⟩) hS ?_
  refine dq 3 rfl (by kernel_rfl) (by kernel_rfl) (by kernel_rfl) rfl rfl (fun w hS => addi (by omega) (by omega) rfl rfl rfl rfl ⟨rfl, rfl⟩) hS ?_
  refine dq 4 rfl (by kernel_rfl) (by kernel_rfl) (by kernel_rfl) rfl rfl (fun w hS => a_lhn (i - i % 4) ((i - i % 4) + 4) ((i - i % 4)) Tryz.underlying22 sz5 rfl rfl rfl rfl rfl (by omega) (by omega) (by omega) (by omega) (by omega) (by omega) ⟨rfl, rfl⟩) hS ?_
  refine dq 5 rfl (by kernel_rfl) (by kernel_rfl) (by kernel_rfl) rfl rfl (fun w hS => s2a Tryz.underlying107 rfl rfl rfl (by omega) ⟨rfl, rfl⟩) hS ?_
  refine dq 6 rfl (by kernel_rfl) (by kernel_rfl) (by kernel_rfl) rfl rfl (fun w hS => lpd (u := .agg (BV (seg8 4 b (i - i % 4)))) hb List.not_mem_nil ag107 hS rfl rfl rfl (by rw [BV_size]; omega) (BV_extract 4 _ (i - i % 4) (by omega)) rfl ⟨rfl, rfl⟩) hS ?_
  refine dl 7 rfl (by kernel_rfl) ?_
  refine cv cf76 hS rfl rfl rfl rfl rfl (sp_field_Dot ((#v[gv row ((4 - (i % 4)) % 4), gv row ((5 - (i % 4)) % 4), gv row ((6 - (i % 4)) % 4), gv row ((7 - (i % 4)) % 4)])) ((seg8 4 b (i - i % 4))) _) ?_
  intro w hS
  refine ⟨fun _ => hS, ?_⟩
  refine dl 8 rfl (by kernel_rfl) ?_
  refine asg rfl rfl rfl ?_
  refine ⟨fun h => (by cases h), ?_⟩
  refine de (by kernel_rfl) ?_
  refine wq_then ?_
  refine wc_ret ?_
  refine fin1 (v := U8 (dot (#v[gv row ((4 - (i % 4)) % 4), gv row ((5 - (i % 4)) % 4), gv row ((6 - (i % 4)) % 4), gv row ((7 - (i % 4)) % 4)]) (seg8 4 b (i - i % 4)))) rfl rfl ?_
  exact ⟨rfl, hS.drop⟩
end Go.Proofs.XZ

/- walks -/
namespace Go.Proofs.XZ
open Go Go.X Go.Proofs
set_option maxRecDepth 100000 in
theorem sp_cipher_columns (b : V8 16) (row : V8 4) (w0 : World) : Calls Tryz.prog 53 #[.agg (BV b), .agg (BV row)] w0 (Ret w0 (.agg (BV (cols b row)))) := by
  refine enter (args := [.agg (BV b), .agg (BV row)]) Tryz.func53 rfl rfl ?_
  refine startw fun w hS => ?_
  refine rg ?_
  refine bxa hS rfl rfl rfl ?_
  intro b2 w hb2 hS
  refine bxa hS rfl rfl rfl ?_
  intro b3 w hb3 hS
  refine ala zr22 hS rfl rfl ?_
  intro b4 w hb4 hS
  refine wq_then ?_
  refine rg ?_
  refine mkf rfl rfl rfl ?_
  refine cv cf74 hS rfl rfl rfl rfl rfl (sp_cipher_each 75 [Ptr b3 0, Ptr b2 0] (colf row b) w cf75 (fun k w hk hq => sp_cipher_columns_1 k b3 b2 _ _ row b _ w rfl hk (hq.old (hS.get 1 rfl) List.not_mem_nil) (hq.old (hS.get 2 rfl) List.not_mem_nil))) ?_
  intro w hS
  refine sa 0 ag22 hS rfl rfl rfl (BV_one _) rfl (BV_size _) (BV_size _) ?_
  intro w hS
  refine wq_then ?_
  refine wc_ret ?_
  refine fin1 (v := .agg (BV (cols b row))) rfl ⟨_, rfl, lv_a ag22 (hS.get 0 rfl) (BV_size _)⟩ ?_
  exact ⟨rfl, hS.drop⟩
end Go.Proofs.XZ

/- walks -/
namespace Go.Proofs.XZ
open Go Go.X Go.Proofs
set_option maxRecDepth 100000 in
theorem sp_cipher_Unmix (b : V8 16) (w0 : World) : Calls Tryz.prog 26 #[.agg (BV b)] w0 (Ret w0 (.agg (BV (unmix b)))) := by
  refine enter (args := [.agg (BV b)]) Tryz.func26 rfl rfl ?_
  refine startw fun w hS => ?_
  refine rg ?_
  refine bxa hS rfl rfl rfl ?_
  intro b1 w hb1 hS
  refine ala zr22 hS rfl rfl ?_
  intro b2 w hb2 hS
  refine wq_then ?_
  refine rg ?_
  refine la 1 ag22 hS rfl rfl rfl rfl (BV_size _) ?_
  refine bd (cs := BV (#v[14, 11, 13, 9])) rfl rfl rfl (by kernel_rfl) ?_
  refine cv cf53 hS rfl rfl rfl rfl rfl (sp_cipher_columns (b) (#v[14, 11, 13, 9]) _) ?_
  intro w hS
  refine sa 0 ag22 hS rfl rfl rfl (BV_one _) rfl (BV_size _) (BV_size _) ?_
  intro w hS
  refine wq_then ?_
  refine wc_ret ?_
  refine fin1 (v := .agg (BV (cols b #v[14, 11, 13, 9]))) rfl ⟨_, rfl, lv_a ag22 (hS.get 0 rfl) (BV_size _)⟩ ?_
  exact ⟨rfl, hS.drop⟩
end Go.Proofs.XZ

/- walks -/
namespace Go.Proofs.XZ
open Go Go.X Go.Proofs
set_option maxRecDepth 100000 in
theorem sp_fast_column (a b c e : UInt8) (w0 : World) : Calls Tryz.prog 50 #[U8 a, U8 b, U8 c, U8 e] w0 (Ret w0 (U32 (col a b c e))) := by
  refine enter (args := [U8 a, U8 b, U8 c, U8 e]) Tryz.func50 rfl rfl ?_
  refine startw fun w hS => ?_
  refine rg ?_
  refine asg rfl rfl rfl ?_
  refine wq_then ?_
  refine rg ?_
  refine mv rfl rfl rfl ?_
  refine cvu32 Tryz.underlying62 ⟨_, Tryz.underlying5⟩ rfl rfl rfl ?_
  refine shln32 (24) (by omega) rfl rfl rfl rfl ?_
  refine mv rfl rfl rfl ?_
  refine cvu32 Tryz.underlying62 ⟨_, Tryz.underlying5⟩ rfl rfl rfl ?_
  refine shln32 (16) (by omega) rfl rfl rfl rfl ?_
  refine or32 rfl rfl rfl rfl ?_
  refine mv rfl rfl rfl ?_
  refine cvu32 Tryz.underlying62 ⟨_, Tryz.underlying5⟩ rfl rfl rfl ?_
  refine shln32 (8) (by omega) rfl rfl rfl rfl ?_
  refine or32 rfl rfl rfl rfl ?_
  refine mv rfl rfl rfl ?_
  refine cvu32 Tryz.underlying62 ⟨_, Tryz.underlying5⟩ rfl rfl rfl ?_
  refine or32 rfl rfl rfl rfl ?_
  refine asg rfl rfl rfl ?_
  refine wq_then ?_
  refine wc_ret ?_
  refine fin1 (v := U32 ((((shl32 (toU32 (((a).toNat : Int))) 24) ||| (shl32 (toU32 (((b).toNat : Int))) 16)) ||| (shl32 (toU32 (((c).toNat : Int))) 8)) ||| (toU32 (((e).toNat : Int))))) rfl rfl ?_
  exact ⟨rfl, hS.drop⟩
end Go.Proofs.XZ

/- walks -/
namespace Go.Proofs.XZ
open Go Go.X Go.Proofs
set_option maxRecDepth 100000 in
theorem sp_fast_words (b : V8 16) (w0 : World) : Calls Tryz.prog 25 #[.agg (BV b)] w0 (Ret w0 (.agg (WV (wds b)))) := by
  refine enter (args := [.agg (BV b)]) Tryz.func25 rfl rfl ?_
  refine startw fun w hS => ?_
  refine rg ?_
  refine bxa hS rfl rfl rfl ?_
  intro b1 w hb1 hS
  refine ala zr67 hS rfl rfl ?_
  intro b2 w hb2 hS
  refine wq_then ?_
  refine rg ?_
  refine ala zr67 hS rfl rfl ?_
  intro b3 w hb3 hS
  refine wq_then ?_
  refine wc_seq ?_
  refine rg ?_
  refine mv rfl rfl rfl ?_
  refine wq_then ?_
  refine wc_block ?_
  refine wc_loop (σ := Nat) (fun k => [(1, Ptr b1 0), (2, Ptr b2 0), (3, Ptr b3 0), (5, I ((k : Int)))])
    (fun k w => (k ≤ 4) ∧ St w0 [] [(b3, .cells (WV (fill32 4 (wdf b) (Vector.replicate 4 0) k)) 67), (b2, .cells (WV (Vector.replicate 4 0)) 67), (b1, .cells (BV b) 22)] w) (fun k => 4 - k) 0 ⟨rfl, rfl, rfl, rfl, trivial⟩ ⟨by omega, (by simp only [Nat.zero_mul, Nat.add_zero, fill8_0, fill32_0]; exact hS)⟩ ?_
  rintro k w ⟨hk, hS⟩
  refine rg ?_
  refine lss rfl rfl rfl rfl ?_
  refine wq_then ?_
  refine wc_seq ?_
  refine wc_if rfl (fun hc1 => ?_) (fun hc1 => ?_)
  · skip
    try simp only [SB] at hc1
    refine wc_skip ?_
    refine wq_then ?_
    refine wc_seq ?_
    refine wc_block ?_
    refine rg ?_
    refine mv rfl rfl rfl ?_
    refine asg rfl rfl rfl ?_
    refine wq_then ?_
    refine wc_draw mo 21 (fun w => St w0 [] [(b3, .cells (WV (fill32 4 (wdf b) (Vector.replicate 4 0) k)) 67), (b2, .cells (WV (Vector.replicate 4 0)) 67), (b1, .cells (BV b) 22)] w) ?_
    have hS := hS.drew
    refine dq 0 rfl (by kernel_rfl) (by kernel_rfl) (by kernel_rfl) rfl rfl (fun w hS => mv rfl rfl rfl ⟨rfl, rfl⟩) hS ?_
    refine dq 1 rfl (by kernel_rfl) (by kernel_rfl) (by kernel_rfl) rfl rfl (fun w hS => mv rfl rfl rfl ⟨rfl, rfl⟩) hS ?_
    refine dq 2 rfl (by kernel_rfl) (by kernel_rfl) (by kernel_rfl) rfl rfl (fun w hS => muli (by omega) (by omega) rfl rfl rfl rfl ⟨rfl, rfl⟩) hS ?_
    refine dq 3 rfl (by kernel_rfl) (by kernel_rfl) (by kernel_rfl) rfl rfl (fun w hS => ian (4 * k) ((4 * k)) Tryz.underlying22 sz5 rfl rfl rfl rfl (by omega) (by omega) (by omega) ⟨rfl, rfl⟩) hS ?_
    refine dq 4 rfl (by kernel_rfl) (by kernel_rfl) (by kernel_rfl) rfl rfl (fun w hS => lo 2 sc5 hS rfl rfl rfl rfl (BV_get _ (4 * k) (by omega)) ⟨rfl, rfl⟩) hS ?_
    refine dq 5 rfl (by kernel_rfl) (by kernel_rfl) (by kernel_rfl) rfl rfl (fun w hS => mv rfl rfl rfl ⟨rfl, rfl⟩) hS ?_
    refine dq 6 rfl (by kernel_rfl) (by kernel_rfl) (by kernel_rfl) rfl rfl (fun w hS => muli (by omega) (by omega) rfl rfl rfl rfl ⟨rfl, rfl⟩) hS ?_
    refine dq 7 rfl (by kernel_rfl) (by kernel_rfl) (by kernel_rfl) rfl rfl (fun w hS => addi (by omega) (by omega) rfl rfl rfl rfl ⟨rfl, rfl⟩) hS ?_
    refine dq 8 rfl (by kernel_rfl) (by kernel_rfl) (by kernel_rfl) rfl rfl (fun w hS => ian ((4 * k) + 1) (((4 * k) + 1)) Tryz.underlying22 sz5 rfl rfl rfl rfl (by omega) (by omega) (by omega) ⟨rfl, rfl⟩) hS ?_
    refine dq 9 rfl (by kernel_rfl) (by kernel_rfl) (by kernel_rfl) rfl rfl (fun w hS => lo 2 sc5 hS rfl rfl rfl rfl (BV_get _ ((4 * k) + 1) (by omega)) ⟨rfl, rfl⟩) hS ?_
    refine dq 10 rfl (by kernel_rfl) (by kernel_rfl) (by kernel_rfl) rfl rfl (fun w hS => mv rfl rfl rfl ⟨rfl, rfl⟩) hS ?_
    refine dq 11 rfl (by kernel_rfl) (by kernel_rfl) (by kernel_rfl) rfl rfl (fun w hS => muli (by omega) (by omega) rfl rfl rfl rfl ⟨rfl, rfl⟩) hS ?_
    refine dq 12 rfl (by kernel_rfl) (by kernel_rfl) (by kernel_rfl) rfl rfl (fun w hS => addi (by omega) (by omega) rfl rfl rfl rfl ⟨rfl, rfl⟩) hS ?_
    refine dq 13 rfl (by kernel_rfl) (by kernel_rfl) (by kernel_rfl) rfl rfl (fun w hS => ian ((4 * k) + 2) (((4 * k) + 2)) Tryz.underlying22 sz5 rfl rfl rfl rfl (by omega) (by omega) (by omega) ⟨rfl, rfl⟩) hS ?_
    refine dq 14 rfl (by kernel_rfl) (by kernel_rfl) (by kernel_rfl) rfl rfl (fun w hS => lo 2 sc5 hS rfl rfl rfl rfl (BV_get _ ((4 * k) + 2) (by omega)) ⟨rfl, rfl⟩) hS ?_
    refine dq 15 rfl (by kernel_rfl) (by kernel_rfl) (by kernel_rfl) rfl rfl (fun w hS => mv rfl rfl rfl ⟨rfl, rfl⟩) hS ?_
    refine dq 16 rfl (by kernel_rfl) (by kernel_rfl) (by kernel_rfl) rfl rfl (fun w hS => muli (by omega) (by omega) rfl rfl rfl rfl ⟨rfl, rfl⟩) hS ?_
    refine dq 17 rfl (by kernel_rfl) (by kernel_rfl) (by kernel_rfl) rfl rfl (fun w hS => addi (by omega) (by omega) rfl rfl rfl rfl ⟨rfl, rfl⟩) hS ?_
    refine dq 18 rfl (by kernel_rfl) (by kernel_rfl) (by kernel_rfl) rfl rfl (fun w hS => ian ((4 * k) + 3) (((4 * k) + 3)) Tryz.underlying22 sz5 rfl rfl rfl rfl (by omega) (by omega) (by omega) ⟨rfl, rfl⟩) hS ?_
    refine dq 19 rfl (by kernel_rfl) (by kernel_rfl) (by kernel_rfl) rfl rfl (fun w hS => lo 2 sc5 hS rfl rfl rfl rfl (BV_get _ ((4 * k) + 3) (by omega)) ⟨rfl, rfl⟩) hS ?_
    refine dl 20 rfl (by kernel_rfl) ?_
    refine cv cf50 hS rfl rfl rfl rfl rfl (sp_fast_column ((gv b (4 * k))) ((gv b ((4 * k) + 1))) ((gv b ((4 * k) + 2))) ((gv b ((4 * k) + 3))) _) ?_
    intro w hS
    refine ⟨fun _ => hS, ?_⟩
    refine dl 21 rfl (by kernel_rfl) ?_
    refine ian (k) (k) Tryz.underlying67 sz62 rfl rfl rfl rfl (by omega) (by omega) (by omega) ?_
    refine ⟨fun h => (by cases h), ?_⟩
    refine dl 22 rfl (by kernel_rfl) ?_
    refine st (cs' := WV (fill32 4 (wdf b) (Vector.replicate 4 0) (k + 1))) 0 sz62 hS rfl rfl rfl rfl rfl rfl (by rw [WV_size]; omega) (by rw [WV_set]; exact congrArg WV (fill32_succ (wdf b) (Vector.replicate 4 0) k)) ?_
    intro w hS
    refine ⟨fun h => (by cases h), ?_⟩
    refine de (by kernel_rfl) ?_
    refine q_block_norm ?_
    refine wq_then ?_
    refine wc_region ?_
    refine addi (by omega) (by omega) rfl rfl rfl rfl ?_
    refine mv rfl rfl rfl ?_
    refine again_q (k + 1) ⟨rfl, rfl, rfl, lkI rfl (by first | omega | rfl), trivial⟩ ⟨by omega, hS⟩ (by omega)
  · skip
    try simp only [SB] at hc1
    refine wc_exit ?_
    refine q_then_exit ?_
    refine q_then_exit ?_
    refine q_block_hit ?_
    refine wq_then ?_
    refine rg ?_
    refine la 0 ag67 hS rfl rfl rfl rfl (WV_size _) ?_
    refine sa 1 ag67 hS rfl rfl rfl (WV_one _) rfl (WV_size _) (WV_size _) ?_
    intro w hS
    refine wq_then ?_
    refine wc_ret ?_
    refine fin1 (v := .agg (WV (fill32 4 (wdf b) (Vector.replicate 4 0) k))) rfl ⟨_, rfl, lv_a ag67 (hS.get 1 rfl) (WV_size _)⟩ ?_
    refine ⟨?_, hS.drop⟩
    have hk4 : k = 4 := by omega
    subst hk4; rw [fill32_n]; rfl
end Go.Proofs.XZ

/- walks -/
namespace Go.Proofs.XZ
open Go Go.X Go.Proofs
set_option maxRecDepth 100000 in
theorem sp_sbox_Back (a : UInt8) (w0 : World) : Calls Tryz.prog 49 #[U8 a] w0 (Ret w0 (U8 (back a))) := by
  refine enter (args := [U8 a]) Tryz.func49 rfl rfl ?_
  refine startw fun w hS => ?_
  refine rg ?_
  refine asg rfl rfl rfl ?_
  refine wq_then ?_
  refine wc_seq ?_
  refine rg ?_
  refine cv cf69 hS rfl rfl rfl rfl rfl (sp_sbox_table _) ?_
  intro w hS
  refine mv rfl rfl rfl ?_
  refine wq_then ?_
  refine wc_block ?_
  refine wc_loop (σ := Nat) (fun k => [(0, U8 (a)), (5, .agg (BV sboxV)), (6, I ((k : Int)))])
    (fun k w => (k ≤ 256 ∧ backL a (256 - k) k = back a) ∧ St w0 [] [] w) (fun k => 256 - k) 0 ⟨rfl, rfl, rfl, trivial⟩ ⟨⟨by omega, rfl⟩, hS⟩ ?_
  rintro k w ⟨⟨hk, hk2⟩, hS⟩
  refine rg ?_
  refine lss rfl rfl rfl rfl ?_
  refine wq_then ?_
  refine wc_seq ?_
  refine wc_if rfl (fun hc1 => ?_) (fun hc1 => ?_)
  · skip
    try simp only [SB] at hc1
    obtain ⟨m, hm⟩ : ∃ m, 256 - k = m + 1 := ⟨255 - k, by omega⟩
    have hm2 : 256 - (k + 1) = m := by omega
    rw [hm] at hk2
    simp only [backL] at hk2
    refine wc_skip ?_
    refine wq_then ?_
    refine wc_seq ?_
    refine wc_block ?_
    refine rg ?_
    refine mv rfl rfl rfl ?_
    refine ixn (k) Tryz.underlying46 sz5 sc5 rfl rfl rfl rfl (by omega) (by omega) (BV_get _ k (by omega)) ?_
    refine asg rfl rfl rfl ?_
    refine asg rfl rfl rfl ?_
    refine wq_then ?_
    refine rg ?_
    refine mv rfl rfl rfl ?_
    refine mv rfl rfl rfl ?_
    refine eqi rfl rfl rfl rfl ?_
    refine wq_then ?_
    refine wc_if rfl (fun hc2 => ?_) (fun hc2 => ?_)
    · skip
      try simp only [SB] at hc2
      have he : gv sboxV k = a := UInt8.toNat_inj.1 (by omega)
      rw [if_pos he] at hk2
      have hk4 : toU8 (k : Int) = UInt8.ofNat k := toU8_nat k
      refine rg ?_
      refine mv rfl rfl rfl ?_
      refine cvu8 Tryz.underlying5 ⟨_, Tryz.underlying3⟩ rfl rfl rfl ?_
      refine asg rfl rfl rfl ?_
      refine wq_then ?_
      refine wc_ret ?_
      refine q_block_ret ?_
      refine q_then_ret ?_
      refine q_then_ret ?_
      refine q_block_ret ?_
      refine q_then_ret ?_
      refine fin1 (v := U8 (toU8 ((k : Int)))) rfl rfl ?_
      refine ⟨?_, hS.drop⟩
      rw [hk4, hk2]
    · skip
      try simp only [SB] at hc2
      have he : ¬ gv sboxV k = a := fun e => by rw [e] at hc2; exact hc2 rfl
      rw [if_neg he] at hk2
      refine wc_skip ?_
      refine q_block_norm ?_
      refine wq_then ?_
      refine wc_region ?_
      refine addi (by omega) (by omega) rfl rfl rfl rfl ?_
      refine mv rfl rfl rfl ?_
      refine again_q (k + 1) ⟨rfl, rfl, lkI rfl (by first | omega | rfl), trivial⟩ ⟨⟨by omega, by rw [hm2]; exact hk2⟩, hS⟩ (by omega)
  · skip
    try simp only [SB] at hc1
    have hz : 256 - k = 0 := by omega
    rw [hz] at hk2
    simp only [backL] at hk2
    refine wc_exit ?_
    refine q_then_exit ?_
    refine q_then_exit ?_
    refine q_block_hit ?_
    refine wq_then ?_
    refine rg ?_
    refine asg rfl rfl rfl ?_
    refine wq_then ?_
    refine wc_ret ?_
    refine fin1 (v := U8 (0)) rfl rfl ?_
    refine ⟨?_, hS.drop⟩
    rw [← hk2]
end Go.Proofs.XZ

/- walks -/
namespace Go.Proofs.XZ
open Go Go.X Go.Proofs
set_option maxRecDepth 100000 in
theorem sp_fast_fill (w0 : World) : Calls Tryz.prog 23 #[] w0 (Ret w0 (.agg (WV fwdT ++ WV bckT))) := by
  refine enter (args := []) Tryz.func23 rfl rfl ?_
  refine startw fun w hS => ?_
  refine rg ?_
  refine ala zr65 hS rfl rfl ?_
  intro b0 w hb0 hS
  refine wq_then ?_
  refine wc_seq ?_
  refine rg ?_
  refine mv rfl rfl rfl ?_
  refine wq_then ?_
  refine wc_block ?_
  refine wc_loop (σ := Nat) (fun k => [(0, Ptr b0 0), (4, I ((k : Int)))])
    (fun k w => (k ≤ 256) ∧ St w0 [] [(b0, .cells (WV (fill32 256 fwdTf (Vector.replicate 256 0) k) ++ WV (fill32 256 bckTf (Vector.replicate 256 0) k)) 65)] w) (fun k => 256 - k) 0 ⟨rfl, rfl, trivial⟩ ⟨by omega, (by simp only [Nat.zero_mul, Nat.add_zero, fill8_0, fill32_0]; exact hS)⟩ ?_
  rintro k w ⟨hk, hS⟩
  refine rg ?_
  refine lss rfl rfl rfl rfl ?_
  refine wq_then ?_
  refine wc_seq ?_
  refine wc_if rfl (fun hc1 => ?_) (fun hc1 => ?_)
  · skip
    try simp only [SB] at hc1
    refine wc_skip ?_
    refine wq_then ?_
    refine wc_seq ?_
    refine wc_block ?_
    refine rg ?_
    refine mv rfl rfl rfl ?_
    refine asg rfl rfl rfl ?_
    refine wq_then ?_
    refine rg ?_
    refine mv rfl rfl rfl ?_
    refine cvu8 Tryz.underlying5 ⟨_, Tryz.underlying3⟩ rfl rfl rfl ?_
    refine cv cf48 hS rfl rfl rfl rfl rfl (sp_sbox_S ((toU8 ((k : Int)))) _) ?_
    intro w hS
    refine mv rfl rfl rfl ?_
    refine cvu8 Tryz.underlying5 ⟨_, Tryz.underlying3⟩ rfl rfl rfl ?_
    refine cv cf49 hS rfl rfl rfl rfl rfl (sp_sbox_Back ((toU8 ((k : Int)))) _) ?_
    intro w hS
    refine asg rfl rfl rfl ?_
    refine asg rfl rfl rfl ?_
    refine wq_then ?_
    refine rg ?_
    refine mv rfl rfl rfl ?_
    refine mv rfl rfl rfl ?_
    refine cv cf51 hS rfl rfl rfl rfl rfl (sp_field_Mul ((sbox (toU8 ((k : Int))))) (2) _) ?_
    intro w hS
    refine mv rfl rfl rfl ?_
    refine mv rfl rfl rfl ?_
    refine mv rfl rfl rfl ?_
    refine cv cf51 hS rfl rfl rfl rfl rfl (sp_field_Mul ((sbox (toU8 ((k : Int))))) (3) _) ?_
    intro w hS
    refine cv cf50 hS rfl rfl rfl rfl rfl (sp_fast_column ((mul (sbox (toU8 ((k : Int)))) 2)) ((sbox (toU8 ((k : Int))))) ((sbox (toU8 ((k : Int))))) ((mul (sbox (toU8 ((k : Int)))) 3)) _) ?_
    intro w hS
    refine fan (0) (0) Tryz.underlying65 rfl sz63 (by decide) rfl rfl rfl rfl (by omega) ?_
    refine ian (k) (k) Tryz.underlying63 sz62 rfl rfl rfl rfl (by omega) (by omega) (by omega) ?_
    refine st (cs' := WV (fill32 256 fwdTf (Vector.replicate 256 0) (k + 1)) ++ WV (fill32 256 bckTf (Vector.replicate 256 0) k)) 0 sz62 hS rfl rfl rfl rfl rfl rfl (lt_sz (cat_size (a := 256) (b := 256) (WV_size _) (WV_size _)) (by omega)) (cat_sl (WV_size _) (by omega) (by rw [WV_set, toU8_nat]; exact congrArg WV (fill32_succ fwdTf (Vector.replicate 256 0) k))) ?_
    intro w hS
    refine wq_then ?_
    refine wc_region ?_
    refine mv rfl rfl rfl ?_
    refine mv rfl rfl rfl ?_
    refine cv cf51 hS rfl rfl rfl rfl rfl (sp_field_Mul ((back (toU8 ((k : Int))))) (14) _) ?_
    intro w hS
    refine mv rfl rfl rfl ?_
    refine cv cf51 hS rfl rfl rfl rfl rfl (sp_field_Mul ((back (toU8 ((k : Int))))) (9) _) ?_
    intro w hS
    refine mv rfl rfl rfl ?_
    refine cv cf51 hS rfl rfl rfl rfl rfl (sp_field_Mul ((back (toU8 ((k : Int))))) (13) _) ?_
    intro w hS
    refine mv rfl rfl rfl ?_
    refine cv cf51 hS rfl rfl rfl rfl rfl (sp_field_Mul ((back (toU8 ((k : Int))))) (11) _) ?_
    intro w hS
    refine cv cf50 hS rfl rfl rfl rfl rfl (sp_fast_column ((mul (back (toU8 ((k : Int)))) 14)) ((mul (back (toU8 ((k : Int)))) 9)) ((mul (back (toU8 ((k : Int)))) 13)) ((mul (back (toU8 ((k : Int)))) 11)) _) ?_
    intro w hS
    refine fan (256) (256) Tryz.underlying65 rfl sz63 (by decide) rfl rfl rfl rfl (by omega) ?_
    refine ian (k) (256 + k) Tryz.underlying63 sz62 rfl rfl rfl rfl (by omega) (by omega) (by omega) ?_
    refine st (cs' := WV (fill32 256 fwdTf (Vector.replicate 256 0) (k + 1)) ++ WV (fill32 256 bckTf (Vector.replicate 256 0) (k + 1))) 0 sz62 hS rfl rfl rfl rfl rfl rfl (lt_sz (cat_size (a := 256) (b := 256) (WV_size _) (WV_size _)) (by omega)) (cat_sr (o' := k) (WV_size _) (by omega) (by rw [WV_set, toU8_nat]; exact congrArg WV (fill32_succ bckTf (Vector.replicate 256 0) k))) ?_
    intro w hS
    refine q_block_norm ?_
    refine wq_then ?_
    refine wc_region ?_
    refine addi (by omega) (by omega) rfl rfl rfl rfl ?_
    refine mv rfl rfl rfl ?_
    refine again_q (k + 1) ⟨rfl, lkI rfl (by first | omega | rfl), trivial⟩ ⟨by omega, hS⟩ (by omega)
  · skip
    try simp only [SB] at hc1
    refine wc_exit ?_
    refine q_then_exit ?_
    refine q_then_exit ?_
    refine q_block_hit ?_
    refine wq_then ?_
    refine rg ?_
    refine la 0 ag65 hS rfl rfl rfl rfl (cat_size (a := 256) (b := 256) (WV_size _) (WV_size _)) ?_
    refine sa 0 ag65 hS rfl rfl rfl (cat_one (WV_one _) (WV_one _)) rfl (cat_size (a := 256) (b := 256) (WV_size _) (WV_size _)) (cat_size (a := 256) (b := 256) (WV_size _) (WV_size _)) ?_
    intro w hS
    refine wq_then ?_
    refine wc_ret ?_
    refine fin1 (v := .agg (WV (fill32 256 fwdTf (Vector.replicate 256 0) k) ++ WV (fill32 256 bckTf (Vector.replicate 256 0) k))) rfl ⟨_, rfl, lv_a ag65 (hS.get 0 rfl) (cat_size (a := 256) (b := 256) (WV_size _) (WV_size _))⟩ ?_
    refine ⟨?_, hS.drop⟩
    have hk4 : k = 256 := by omega
    subst hk4; rw [fill32_n, fill32_n]; rfl
end Go.Proofs.XZ

/- walks -/
namespace Go.Proofs.XZ
open Go Go.X Go.Proofs
set_option maxRecDepth 100000 in
theorem sp_fast_New (key : V8 16) (w0 : World) : Calls Tryz.prog 8 #[.agg (BV key)] w0 (RetS w0 (fun v L => ∃ c, v = Ptr c 0 ∧ L = [(c, .cells (cipherC key) 70)])) := by
  refine enter (args := [.agg (BV key)]) Tryz.func8 rfl rfl ?_
  refine startw fun w hS => ?_
  refine rg ?_
  refine bxa hS rfl rfl rfl ?_
  intro b1 w hb1 hS
  refine asg rfl rfl rfl ?_
  refine wq_then ?_
  refine rd mo 4 (fun w => St w0 [] [(b1, .cells (BV key) 22)] w) ?_
  have hS := hS.drew
  refine dq 0 rfl (by kernel_rfl) (by kernel_rfl) (by kernel_rfl) rfl rfl (fun w hS => la 0 ag22 hS rfl rfl rfl rfl (BV_size _) ⟨rfl, rfl⟩) hS ?_
  refine dl 1 rfl (by kernel_rfl) ?_
  refine cv cf23 hS rfl rfl rfl rfl rfl (sp_fast_fill _) ?_
  intro w hS
  refine ⟨fun _ => hS, ?_⟩
  refine dq 2 rfl (by kernel_rfl) (by kernel_rfl) (by kernel_rfl) rfl rfl (fun w hS => bd (cs := #[.bool (true)] ++ (WV (Vector.replicate 44 0) ++ (WV (Vector.replicate 44 0) ++ (BV key ++ (WV fwdT ++ WV bckT))))) rfl rfl rfl ((bu70 _).trans (fill_1 (off := 0) rfl rfl (le_sz (a := 617) (cat_size (a := 1) (b := 616) rfl (cat_size (a := 44) (b := 572) (WV_size _) (cat_size (a := 44) (b := 528) (WV_size _) (cat_size (a := 16) (b := 512) (BV_size _) (cat_size (a := 256) (b := 256) (WV_size _) (WV_size _)))))) (by omega)) (cat_sl (a := 1) rfl (by omega) rfl) <| fill_w (off := 89) (size := 16) rfl (BV_size _) (le_sz (a := 617) (cat_size (a := 1) (b := 616) rfl (cat_size (a := 44) (b := 572) (WV_size _) (cat_size (a := 44) (b := 528) (WV_size _) (cat_size (a := 16) (b := 512) (BV_size _) (cat_size (a := 256) (b := 256) (WV_size _) (WV_size _)))))) (by omega)) (cat_pr (a := 1) (o' := 88) rfl (by omega) (ple2 (BV_size _) (cat_size (a := 44) (b := 572) (WV_size _) (cat_size (a := 44) (b := 528) (WV_size _) (cat_size (a := 16) (b := 512) (BV_size _) (cat_size (a := 256) (b := 256) (WV_size _) (WV_size _))))) (by omega)) (cat_pr (a := 44) (o' := 44) (WV_size _) (by omega) (ple2 (BV_size _) (cat_size (a := 44) (b := 528) (WV_size _) (cat_size (a := 16) (b := 512) (BV_size _) (cat_size (a := 256) (b := 256) (WV_size _) (WV_size _)))) (by omega)) (cat_pr (a := 44) (o' := 0) (WV_size _) (by omega) (ple2 (BV_size _) (cat_size (a := 16) (b := 512) (BV_size _) (cat_size (a := 256) (b := 256) (WV_size _) (WV_size _))) (by omega)) (cat_pl (a := 16) (BV_size _) (ple (BV_size _) (by omega)) (put_all (BV_size _) (BV_size _)))))) <| fill_w (off := 105) (size := 512) rfl (cat_size (a := 256) (b := 256) (WV_size _) (WV_size _)) (le_sz (a := 617) (cat_size (a := 1) (b := 616) rfl (cat_size (a := 44) (b := 572) (WV_size _) (cat_size (a := 44) (b := 528) (WV_size _) (cat_size (a := 16) (b := 512) (BV_size _) (cat_size (a := 256) (b := 256) (WV_size _) (WV_size _)))))) (by omega)) (cat_pr (a := 1) (o' := 104) rfl (by omega) (ple2 (cat_size (a := 256) (b := 256) (WV_size _) (WV_size _)) (cat_size (a := 44) (b := 572) (WV_size _) (cat_size (a := 44) (b := 528) (WV_size _) (cat_size (a := 16) (b := 512) (BV_size _) (cat_size (a := 256) (b := 256) (WV_size _) (WV_size _))))) (by omega)) (cat_pr (a := 44) (o' := 60) (WV_size _) (by omega) (ple2 (cat_size (a := 256) (b := 256) (WV_size _) (WV_size _)) (cat_size (a := 44) (b := 528) (WV_size _) (cat_size (a := 16) (b := 512) (BV_size _) (cat_size (a := 256) (b := 256) (WV_size _) (WV_size _)))) (by omega)) (cat_pr (a := 44) (o' := 16) (WV_size _) (by omega) (ple2 (cat_size (a := 256) (b := 256) (WV_size _) (WV_size _)) (cat_size (a := 16) (b := 512) (BV_size _) (cat_size (a := 256) (b := 256) (WV_size _) (WV_size _))) (by omega)) (cat_pr (a := 16) (o' := 0) (BV_size _) (by omega) (ple2 (cat_size (a := 256) (b := 256) (WV_size _) (WV_size _)) (cat_size (a := 256) (b := 256) (WV_size _) (WV_size _)) (by omega)) (put_all (cat_size (a := 256) (b := 256) (WV_size _) (WV_size _)) (cat_size (a := 256) (b := 256) (WV_size _) (WV_size _))))))) <| rfl)) ⟨rfl, rfl⟩) hS ?_
  refine dl 3 rfl (by kernel_rfl) ?_
  refine bxa hS rfl rfl rfl ?_
  intro b9 w hb9 hS
  refine ⟨fun _ => hS.tl, ?_⟩
  refine dl 4 rfl (by kernel_rfl) ?_
  refine asg rfl rfl rfl ?_
  refine ⟨fun h => (by cases h), ?_⟩
  refine de (by kernel_rfl) ?_
  refine wq_then ?_
  refine wc_seq ?_
  refine rg ?_
  refine la 1 ag22 hS rfl rfl rfl rfl (BV_size _) ?_
  refine cv cf24 hS rfl rfl rfl rfl rfl (sp_keys_Expand (key) _) ?_
  intro w hS
  refine mv rfl rfl rfl ?_
  refine wq_then ?_
  refine wc_block ?_
  refine wc_loop (σ := Nat) (fun k => [(2, (.pointer none)), (3, Ptr b9 0), (11, .agg (BV (expand key))), (12, I ((k : Int)))])
    (fun k w => (k ≤ 11) ∧ St w0 [] [(b9, .cells (#[.bool (true)] ++ (WV (fwK key k) ++ (WV (bkK key k) ++ (BV key ++ (WV fwdT ++ WV bckT))))) 70), (b1, .cells (BV key) 22)] w) (fun k => 11 - k) 0 ⟨rfl, rfl, rfl, rfl, trivial⟩ ⟨by omega, hS⟩ ?_
  rintro k w ⟨hk, hS⟩
  refine rg ?_
  refine lss rfl rfl rfl rfl ?_
  refine wq_then ?_
  refine wc_seq ?_
  refine wc_if rfl (fun hc1 => ?_) (fun hc1 => ?_)
  · skip
    try simp only [SB] at hc1
    refine wc_skip ?_
    refine wq_then ?_
    refine wc_seq ?_
    refine wc_block ?_
    refine rg ?_
    refine mv rfl rfl rfl ?_
    refine ixpn (u := .agg (BV (seg8 16 (expand key) ((k) * 16)))) (k) Tryz.underlying45 ag22 rfl rfl rfl rfl (by omega) (by omega) (BV_extract 16 _ ((k) * 16) (by omega)) rfl ?_
    refine ala zr22 hS rfl rfl ?_
    intro b5 w hb5 hS
    refine asg rfl rfl rfl ?_
    refine sa 0 ag22 hS rfl rfl rfl (BV_one _) rfl (BV_size _) (BV_size _) ?_
    intro w hS
    refine wq_then ?_
    refine rd mo 8 (fun w => St w0 [] [(b5, .cells (BV (seg8 16 (expand key) ((k) * 16))) 22)] w) ?_
    have hS := hS.drew
    refine dq 0 rfl (by kernel_rfl) (by kernel_rfl) (by kernel_rfl) rfl rfl (fun w hS => mv rfl rfl rfl ⟨rfl, rfl⟩) (hS.sublist (.cons_cons _ (.cons _ (.cons _ (List.nil_sublist _))))) ?_
    refine dq 1 rfl (by kernel_rfl) (by kernel_rfl) (by kernel_rfl) rfl rfl (fun w hS => mv rfl rfl rfl ⟨rfl, rfl⟩) (hS.sublist (.cons_cons _ (.cons _ (.cons _ (List.nil_sublist _))))) ?_
    refine dq 2 rfl (by kernel_rfl) (by kernel_rfl) (by kernel_rfl) rfl rfl (fun w hS => la 0 ag22 hS rfl rfl rfl rfl (BV_size _) ⟨rfl, rfl⟩) (hS.sublist (.cons_cons _ (.cons _ (.cons _ (List.nil_sublist _))))) ?_
    refine dq 4 rfl (by kernel_rfl) (by kernel_rfl) (by kernel_rfl) rfl rfl (fun w hS => nilp rfl rfl rfl ⟨rfl, rfl⟩) (hS.sublist (.cons_cons _ (.cons _ (.cons _ (List.nil_sublist _))))) ?_
    refine dq 5 rfl (by kernel_rfl) (by kernel_rfl) (by kernel_rfl) rfl rfl (fun w hS => fan (1) (1) Tryz.underlying70 rfl sz68 (by decide) rfl rfl rfl rfl (by omega) ⟨rfl, rfl⟩) (hS.sublist (.cons_cons _ (.cons _ (.cons _ (List.nil_sublist _))))) ?_
    refine dl 3 rfl (by kernel_rfl) ?_
    refine cv cf25 hS rfl rfl rfl rfl rfl (sp_fast_words ((seg8 16 (expand key) ((k) * 16))) _) ?_
    intro w hS
    refine ⟨fun _ => (hS.sublist (.cons_cons _ (.cons _ (.cons _ (List.nil_sublist _))))), ?_⟩
    refine dq 6 rfl (by kernel_rfl) (by kernel_rfl) (by kernel_rfl) rfl rfl (fun w hS => ian (k) (1 + k * 4) Tryz.underlying68 sz67 rfl rfl rfl rfl (by omega) (by omega) (by omega) ⟨rfl, rfl⟩) (hS.sublist (.cons_cons _ (.cons _ (.cons _ (List.nil_sublist _))))) ?_
    refine dl 7 rfl (by kernel_rfl) ?_
    refine spp (cs' := #[.bool (true)] ++ (WV (put32 (fwK key k) (k * 4) (wds (seg8 16 (expand key) ((k) * 16)))) ++ (WV (bkK key k) ++ (BV key ++ (WV fwdT ++ WV bckT))))) 1 ag67 hS rfl rfl rfl (WV_one _) rfl (le_sz (a := 617) (cat_size (a := 1) (b := 616) rfl (cat_size (a := 44) (b := 572) (WV_size _) (cat_size (a := 44) (b := 528) (WV_size _) (cat_size (a := 16) (b := 512) (BV_size _) (cat_size (a := 256) (b := 256) (WV_size _) (WV_size _)))))) (by omega)) (WV_size _) (cat_pr (a := 1) (o' := k * 4) rfl (by omega) (ple2 (WV_size _) (cat_size (a := 44) (b := 572) (WV_size _) (cat_size (a := 44) (b := 528) (WV_size _) (cat_size (a := 16) (b := 512) (BV_size _) (cat_size (a := 256) (b := 256) (WV_size _) (WV_size _))))) (by omega)) (cat_pl (a := 44) (WV_size _) (ple (WV_size _) (by omega)) (WV_put _ _ _ (by omega)))) ?_
    intro w hS
    refine ⟨fun _ => (hS.sublist (.cons_cons _ (.cons _ (.cons _ (List.nil_sublist _))))), ?_⟩
    refine de (by kernel_rfl) ?_
    refine wq_then ?_
    refine wc_seq ?_
    refine rg ?_
    refine mv rfl rfl rfl ?_
    refine gtr rfl rfl rfl rfl ?_
    refine mv rfl rfl rfl ?_
    refine spl 25 rfl (fun hb1 => ?_) (fun hb1 => ?_)
    · skip
      try simp only [SB] at hb1
      refine mv rfl rfl rfl ?_
      refine lss rfl rfl rfl rfl ?_
      refine pk_t rfl rfl rfl rfl ?_
      refine wq_then ?_
      refine wc_if rfl (fun hc2 => ?_) (fun hc2 => ?_)
      · skip
        try simp only [SB] at hc2
        refine wc_region ?_
        refine la 0 ag22 hS rfl rfl rfl rfl (BV_size _) ?_
        refine cv cf26 hS rfl rfl rfl rfl rfl (sp_cipher_Unmix ((seg8 16 (expand key) ((k) * 16))) _) ?_
        intro w hS
        refine sa 0 ag22 hS rfl rfl rfl (BV_one _) rfl (BV_size _) (BV_size _) ?_
        intro w hS
        refine wq_then ?_
        refine wc_draw mo 9 (fun w => St w0 [] [(b5, .cells (BV (unmix (seg8 16 (expand key) ((k) * 16)))) 22)] w) ?_
        have hS := hS.drew
        refine dq 0 rfl (by kernel_rfl) (by kernel_rfl) (by kernel_rfl) rfl rfl (fun w hS => mv rfl rfl rfl ⟨rfl, rfl⟩) (hS.sublist (.cons_cons _ (.cons _ (.cons _ (List.nil_sublist _))))) ?_
        refine dq 1 rfl (by kernel_rfl) (by kernel_rfl) (by kernel_rfl) rfl rfl (fun w hS => mv rfl rfl rfl ⟨rfl, rfl⟩) (hS.sublist (.cons_cons _ (.cons _ (.cons _ (List.nil_sublist _))))) ?_
        refine dq 2 rfl (by kernel_rfl) (by kernel_rfl) (by kernel_rfl) rfl rfl (fun w hS => subi (by omega) (by omega) rfl rfl rfl rfl ⟨rfl, rfl⟩) (hS.sublist (.cons_cons _ (.cons _ (.cons _ (List.nil_sublist _))))) ?_
        refine dq 3 rfl (by kernel_rfl) (by kernel_rfl) (by kernel_rfl) rfl rfl (fun w hS => la 0 ag22 hS rfl rfl rfl rfl (BV_size _) ⟨rfl, rfl⟩) (hS.sublist (.cons_cons _ (.cons _ (.cons _ (List.nil_sublist _))))) ?_
        refine dq 5 rfl (by kernel_rfl) (by kernel_rfl) (by kernel_rfl) rfl rfl (fun w hS => nilp rfl rfl rfl ⟨rfl, rfl⟩) (hS.sublist (.cons_cons _ (.cons _ (.cons _ (List.nil_sublist _))))) ?_
        refine dq 6 rfl (by kernel_rfl) (by kernel_rfl) (by kernel_rfl) rfl rfl (fun w hS => fan (45) (45) Tryz.underlying70 rfl sz68 (by decide) rfl rfl rfl rfl (by omega) ⟨rfl, rfl⟩) (hS.sublist (.cons_cons _ (.cons _ (.cons _ (List.nil_sublist _))))) ?_
        refine dl 4 rfl (by kernel_rfl) ?_
        refine cv cf25 hS rfl rfl rfl rfl rfl (sp_fast_words ((unmix (seg8 16 (expand key) ((k) * 16)))) _) ?_
        intro w hS
        refine ⟨fun _ => (hS.sublist (.cons_cons _ (.cons _ (.cons _ (List.nil_sublist _))))), ?_⟩
        refine dq 7 rfl (by kernel_rfl) (by kernel_rfl) (by kernel_rfl) rfl rfl (fun w hS => ian (10 - k) (45 + (10 - k) * 4) Tryz.underlying68 sz67 rfl rfl rfl rfl (by omega) (by omega) (by omega) ⟨rfl, rfl⟩) (hS.sublist (.cons_cons _ (.cons _ (.cons _ (List.nil_sublist _))))) ?_
        refine dl 8 rfl (by kernel_rfl) ?_
        refine spp (cs' := #[.bool (true)] ++ (WV (put32 (fwK key k) (k * 4) (wds (seg8 16 (expand key) ((k) * 16)))) ++ (WV (put32 (bkK key k) ((10 - k) * 4) (wds (unmix (seg8 16 (expand key) ((k) * 16))))) ++ (BV key ++ (WV fwdT ++ WV bckT))))) 1 ag67 hS rfl rfl rfl (WV_one _) rfl (le_sz (a := 617) (cat_size (a := 1) (b := 616) rfl (cat_size (a := 44) (b := 572) (WV_size _) (cat_size (a := 44) (b := 528) (WV_size _) (cat_size (a := 16) (b := 512) (BV_size _) (cat_size (a := 256) (b := 256) (WV_size _) (WV_size _)))))) (by omega)) (WV_size _) (cat_pr (a := 1) (o' := 44 + (10 - k) * 4) rfl (by omega) (ple2 (WV_size _) (cat_size (a := 44) (b := 572) (WV_size _) (cat_size (a := 44) (b := 528) (WV_size _) (cat_size (a := 16) (b := 512) (BV_size _) (cat_size (a := 256) (b := 256) (WV_size _) (WV_size _))))) (by omega)) (cat_pr (a := 44) (o' := (10 - k) * 4) (WV_size _) (by omega) (ple2 (WV_size _) (cat_size (a := 44) (b := 528) (WV_size _) (cat_size (a := 16) (b := 512) (BV_size _) (cat_size (a := 256) (b := 256) (WV_size _) (WV_size _)))) (by omega)) (cat_pl (a := 44) (WV_size _) (ple (WV_size _) (by omega)) (WV_put _ _ _ (by omega))))) ?_
        intro w hS
        refine ⟨fun _ => (hS.sublist (.cons_cons _ (.cons _ (.cons _ (List.nil_sublist _))))), ?_⟩
        refine de (by kernel_rfl) ?_
        refine q_block_norm ?_
        refine wq_then ?_
        refine wc_region ?_
        refine addi (by omega) (by omega) rfl rfl rfl rfl ?_
        refine mv rfl rfl rfl ?_
        refine again_q (k + 1) ⟨rfl, rfl, rfl, lkI rfl (by first | omega | rfl), trivial⟩ ⟨by omega, (bk_mid hS.tl (by omega))⟩ (by omega)
      · skip
        try simp only [SB] at hc2
        refine wc_skip ?_
        refine wq_then ?_
        refine wc_draw mo 9 (fun w => St w0 [] [(b5, .cells (BV (seg8 16 (expand key) ((k) * 16))) 22)] w) ?_
        have hS := hS.drew
        refine dq 0 rfl (by kernel_rfl) (by kernel_rfl) (by kernel_rfl) rfl rfl (fun w hS => mv rfl rfl rfl ⟨rfl, rfl⟩) (hS.sublist (.cons_cons _ (.cons _ (.cons _ (List.nil_sublist _))))) ?_
        refine dq 1 rfl (by kernel_rfl) (by kernel_rfl) (by kernel_rfl) rfl rfl (fun w hS => mv rfl rfl rfl ⟨rfl, rfl⟩) (hS.sublist (.cons_cons _ (.cons _ (.cons _ (List.nil_sublist _))))) ?_
        refine dq 2 rfl (by kernel_rfl) (by kernel_rfl) (by kernel_rfl) rfl rfl (fun w hS => subi (by omega) (by omega) rfl rfl rfl rfl ⟨rfl, rfl⟩) (hS.sublist (.cons_cons _ (.cons _ (.cons _ (List.nil_sublist _))))) ?_
        refine dq 3 rfl (by kernel_rfl) (by kernel_rfl) (by kernel_rfl) rfl rfl (fun w hS => la 0 ag22 hS rfl rfl rfl rfl (BV_size _) ⟨rfl, rfl⟩) (hS.sublist (.cons_cons _ (.cons _ (.cons _ (List.nil_sublist _))))) ?_
        refine dq 5 rfl (by kernel_rfl) (by kernel_rfl) (by kernel_rfl) rfl rfl (fun w hS => nilp rfl rfl rfl ⟨rfl, rfl⟩) (hS.sublist (.cons_cons _ (.cons _ (.cons _ (List.nil_sublist _))))) ?_
        refine dq 6 rfl (by kernel_rfl) (by kernel_rfl) (by kernel_rfl) rfl rfl (fun w hS => fan (45) (45) Tryz.underlying70 rfl sz68 (by decide) rfl rfl rfl rfl (by omega) ⟨rfl, rfl⟩) (hS.sublist (.cons_cons _ (.cons _ (.cons _ (List.nil_sublist _))))) ?_
        refine dl 4 rfl (by kernel_rfl) ?_
        refine cv cf25 hS rfl rfl rfl rfl rfl (sp_fast_words ((seg8 16 (expand key) ((k) * 16))) _) ?_
        intro w hS
        refine ⟨fun _ => (hS.sublist (.cons_cons _ (.cons _ (.cons _ (List.nil_sublist _))))), ?_⟩
        refine dq 7 rfl (by kernel_rfl) (by kernel_rfl) (by kernel_rfl) rfl rfl (fun w hS => ian (10 - k) (45 + (10 - k) * 4) Tryz.underlying68 sz67 rfl rfl rfl rfl (by omega) (by omega) (by omega) ⟨rfl, rfl⟩) (hS.sublist (.cons_cons _ (.cons _ (.cons _ (List.nil_sublist _))))) ?_
        refine dl 8 rfl (by kernel_rfl) ?_
        refine spp (cs' := #[.bool (true)] ++ (WV (put32 (fwK key k) (k * 4) (wds (seg8 16 (expand key) ((k) * 16)))) ++ (WV (put32 (bkK key k) ((10 - k) * 4) (wds (seg8 16 (expand key) ((k) * 16)))) ++ (BV key ++ (WV fwdT ++ WV bckT))))) 1 ag67 hS rfl rfl rfl (WV_one _) rfl (le_sz (a := 617) (cat_size (a := 1) (b := 616) rfl (cat_size (a := 44) (b := 572) (WV_size _) (cat_size (a := 44) (b := 528) (WV_size _) (cat_size (a := 16) (b := 512) (BV_size _) (cat_size (a := 256) (b := 256) (WV_size _) (WV_size _)))))) (by omega)) (WV_size _) (cat_pr (a := 1) (o' := 44 + (10 - k) * 4) rfl (by omega) (ple2 (WV_size _) (cat_size (a := 44) (b := 572) (WV_size _) (cat_size (a := 44) (b := 528) (WV_size _) (cat_size (a := 16) (b := 512) (BV_size _) (cat_size (a := 256) (b := 256) (WV_size _) (WV_size _))))) (by omega)) (cat_pr (a := 44) (o' := (10 - k) * 4) (WV_size _) (by omega) (ple2 (WV_size _) (cat_size (a := 44) (b := 528) (WV_size _) (cat_size (a := 16) (b := 512) (BV_size _) (cat_size (a := 256) (b := 256) (WV_size _) (WV_size _)))) (by omega)) (cat_pl (a := 44) (WV_size _) (ple (WV_size _) (by omega)) (WV_put _ _ _ (by omega))))) ?_
        intro w hS
        refine ⟨fun _ => (hS.sublist (.cons_cons _ (.cons _ (.cons _ (List.nil_sublist _))))), ?_⟩
        refine de (by kernel_rfl) ?_
        refine q_block_norm ?_
        refine wq_then ?_
        refine wc_region ?_
        refine addi (by omega) (by omega) rfl rfl rfl rfl ?_
        refine mv rfl rfl rfl ?_
        refine again_q (k + 1) ⟨rfl, rfl, rfl, lkI rfl (by first | omega | rfl), trivial⟩ ⟨by omega, (bk_out hS.tl (by omega))⟩ (by omega)
    · skip
      try simp only [SB] at hb1
      refine no rfl rfl ?_
      refine no rfl rfl ?_
      refine pk_f rfl rfl rfl rfl ?_
      refine wq_then ?_
      refine wc_if_f rfl ?_
      refine wc_skip ?_
      refine wq_then ?_
      refine wc_draw mo 9 (fun w => St w0 [] [(b5, .cells (BV (seg8 16 (expand key) ((k) * 16))) 22)] w) ?_
      have hS := hS.drew
      refine dq 0 rfl (by kernel_rfl) (by kernel_rfl) (by kernel_rfl) rfl rfl (fun w hS => mv rfl rfl rfl ⟨rfl, rfl⟩) (hS.sublist (.cons_cons _ (.cons _ (.cons _ (List.nil_sublist _))))) ?_
      refine dq 1 rfl (by kernel_rfl) (by kernel_rfl) (by kernel_rfl) rfl rfl (fun w hS => mv rfl rfl rfl ⟨rfl, rfl⟩) (hS.sublist (.cons_cons _ (.cons _ (.cons _ (List.nil_sublist _))))) ?_
      refine dq 2 rfl (by kernel_rfl) (by kernel_rfl) (by kernel_rfl) rfl rfl (fun w hS => subi (by omega) (by omega) rfl rfl rfl rfl ⟨rfl, rfl⟩) (hS.sublist (.cons_cons _ (.cons _ (.cons _ (List.nil_sublist _))))) ?_
      refine dq 3 rfl (by kernel_rfl) (by kernel_rfl) (by kernel_rfl) rfl rfl (fun w hS => la 0 ag22 hS rfl rfl rfl rfl (BV_size _) ⟨rfl, rfl⟩) (hS.sublist (.cons_cons _ (.cons _ (.cons _ (List.nil_sublist _))))) ?_
      refine dq 5 rfl (by kernel_rfl) (by kernel_rfl) (by kernel_rfl) rfl rfl (fun w hS => nilp rfl rfl rfl ⟨rfl, rfl⟩) (hS.sublist (.cons_cons _ (.cons _ (.cons _ (List.nil_sublist _))))) ?_
      refine dq 6 rfl (by kernel_rfl) (by kernel_rfl) (by kernel_rfl) rfl rfl (fun w hS => fan (45) (45) Tryz.underlying70 rfl sz68 (by decide) rfl rfl rfl rfl (by omega) ⟨rfl, rfl⟩) (hS.sublist (.cons_cons _ (.cons _ (.cons _ (List.nil_sublist _))))) ?_
      refine dl 4 rfl (by kernel_rfl) ?_
      refine cv cf25 hS rfl rfl rfl rfl rfl (sp_fast_words ((seg8 16 (expand key) ((k) * 16))) _) ?_
      intro w hS
      refine ⟨fun _ => (hS.sublist (.cons_cons _ (.cons _ (.cons _ (List.nil_sublist _))))), ?_⟩
      refine dq 7 rfl (by kernel_rfl) (by kernel_rfl) (by kernel_rfl) rfl rfl (fun w hS => ian (10 - k) (45 + (10 - k) * 4) Tryz.underlying68 sz67 rfl rfl rfl rfl (by omega) (by omega) (by omega) ⟨rfl, rfl⟩) (hS.sublist (.cons_cons _ (.cons _ (.cons _ (List.nil_sublist _))))) ?_
      refine dl 8 rfl (by kernel_rfl) ?_
      refine spp (cs' := #[.bool (true)] ++ (WV (put32 (fwK key k) (k * 4) (wds (seg8 16 (expand key) ((k) * 16)))) ++ (WV (put32 (bkK key k) ((10 - k) * 4) (wds (seg8 16 (expand key) ((k) * 16)))) ++ (BV key ++ (WV fwdT ++ WV bckT))))) 1 ag67 hS rfl rfl rfl (WV_one _) rfl (le_sz (a := 617) (cat_size (a := 1) (b := 616) rfl (cat_size (a := 44) (b := 572) (WV_size _) (cat_size (a := 44) (b := 528) (WV_size _) (cat_size (a := 16) (b := 512) (BV_size _) (cat_size (a := 256) (b := 256) (WV_size _) (WV_size _)))))) (by omega)) (WV_size _) (cat_pr (a := 1) (o' := 44 + (10 - k) * 4) rfl (by omega) (ple2 (WV_size _) (cat_size (a := 44) (b := 572) (WV_size _) (cat_size (a := 44) (b := 528) (WV_size _) (cat_size (a := 16) (b := 512) (BV_size _) (cat_size (a := 256) (b := 256) (WV_size _) (WV_size _))))) (by omega)) (cat_pr (a := 44) (o' := (10 - k) * 4) (WV_size _) (by omega) (ple2 (WV_size _) (cat_size (a := 44) (b := 528) (WV_size _) (cat_size (a := 16) (b := 512) (BV_size _) (cat_size (a := 256) (b := 256) (WV_size _) (WV_size _)))) (by omega)) (cat_pl (a := 44) (WV_size _) (ple (WV_size _) (by omega)) (WV_put _ _ _ (by omega))))) ?_
      intro w hS
      refine ⟨fun _ => (hS.sublist (.cons_cons _ (.cons _ (.cons _ (List.nil_sublist _))))), ?_⟩
      refine de (by kernel_rfl) ?_
      refine q_block_norm ?_
      refine wq_then ?_
      refine wc_region ?_
      refine addi (by omega) (by omega) rfl rfl rfl rfl ?_
      refine mv rfl rfl rfl ?_
      refine again_q (k + 1) ⟨rfl, rfl, rfl, lkI rfl (by first | omega | rfl), trivial⟩ ⟨by omega, (bk_out hS.tl (by omega))⟩ (by omega)
  · skip
    try simp only [SB] at hc1
    refine wc_exit ?_
    refine q_then_exit ?_
    refine q_then_exit ?_
    refine q_block_hit ?_
    refine wq_then ?_
    refine rg ?_
    refine mv rfl rfl rfl ?_
    refine asg rfl rfl rfl ?_
    refine wq_then ?_
    refine wc_ret ?_
    refine fin1 (v := Ptr b9 0) rfl rfl ?_
    have hk11 : k = 11 := by omega
    subst hk11
    exact ⟨_, _, rfl, ⟨b9, rfl, rfl⟩, hS.sublist (.cons_cons _ (List.nil_sublist _))⟩
end Go.Proofs.XZ

/- walks -/
namespace Go.Proofs.XZ
open Go Go.X Go.Proofs
set_option maxRecDepth 100000 in
theorem sp_fast_rotate (a : UInt32) (r : Nat) (r_ : Int) (w0 : World) (hr_ : r_ = (r : Int)) (hr : r < 4) : Calls Tryz.prog 68 #[U32 a, I r_] w0 (Ret w0 (U32 (rotr a r))) := by
  subst hr_
  refine enter (args := [U32 a, I (r : Int)]) Tryz.func68 rfl rfl ?_
  refine startw fun w hS => ?_
  refine rg ?_
  refine asg rfl rfl rfl ?_
  refine wq_then ?_
  refine rd mo 11 (fun w => St w0 [] [] w) ?_
  have hS := hS.drew
  refine dq 0 rfl (by kernel_rfl) (by kernel_rfl) (by kernel_rfl) rfl rfl (fun w hS => mv rfl rfl rfl ⟨rfl, rfl⟩) hS ?_
  refine dq 1 rfl (by kernel_rfl) (by kernel_rfl) (by kernel_rfl) rfl rfl (fun w hS => mv rfl rfl rfl ⟨rfl, rfl⟩) hS ?_
  refine dq 2 rfl (by kernel_rfl) (by kernel_rfl) (by kernel_rfl) rfl rfl (fun w hS => muli (by omega) (by omega) rfl rfl rfl rfl ⟨rfl, rfl⟩) hS ?_
  refine dq 3 rfl (by kernel_rfl) (by kernel_rfl) (by kernel_rfl) rfl rfl (fun w hS => shrn32 (8 * r) (by omega) rfl rfl rfl rfl ⟨rfl, rfl⟩) hS ?_
  refine dq 4 rfl (by kernel_rfl) (by kernel_rfl) (by kernel_rfl) rfl rfl (fun w hS => mv rfl rfl rfl ⟨rfl, rfl⟩) hS ?_
  refine dq 5 rfl (by kernel_rfl) (by kernel_rfl) (by kernel_rfl) rfl rfl (fun w hS => mv rfl rfl rfl ⟨rfl, rfl⟩) hS ?_
  refine dq 6 rfl (by kernel_rfl) (by kernel_rfl) (by kernel_rfl) rfl rfl (fun w hS => muli (by omega) (by omega) rfl rfl rfl rfl ⟨rfl, rfl⟩) hS ?_
  refine dq 7 rfl (by kernel_rfl) (by kernel_rfl) (by kernel_rfl) rfl rfl (fun w hS => subi (by omega) (by omega) rfl rfl rfl rfl ⟨rfl, rfl⟩) hS ?_
  refine dq 8 rfl (by kernel_rfl) (by kernel_rfl) (by kernel_rfl) rfl rfl (fun w hS => andi (D := 32) 5 (by decide) (by decide) (by decide) rfl rfl rfl rfl ⟨rfl, rfl⟩) hS ?_
  refine dq 9 rfl (by kernel_rfl) (by kernel_rfl) (by kernel_rfl) rfl rfl (fun w hS => shln32 ((32 - (8 * r)) % 32) (by omega) rfl rfl rfl rfl ⟨rfl, rfl⟩) hS ?_
  refine dq 10 rfl (by kernel_rfl) (by kernel_rfl) (by kernel_rfl) rfl rfl (fun w hS => or32 rfl rfl rfl rfl ⟨rfl, rfl⟩) hS ?_
  refine dl 11 rfl (by kernel_rfl) ?_
  refine asg rfl rfl rfl ?_
  refine ⟨fun h => (by cases h), ?_⟩
  refine de (by kernel_rfl) ?_
  refine wq_then ?_
  refine wc_ret ?_
  refine fin1 (v := U32 ((shr32 a (8 * r)) ||| (shl32 a ((32 - (8 * r)) % 32)))) rfl rfl ?_
  exact ⟨rfl, hS.drop⟩
end Go.Proofs.XZ

/- walks -/
namespace Go.Proofs.XZ
open Go Go.X Go.Proofs
set_option maxRecDepth 100000 in
theorem sp_fast_run_1 (s : V32 4) (c r sb E step : Nat) (c_ : Int) (r_ : Int) (w0 : World) (hc_ : c_ = (c : Int)) (hr_ : r_ = (r : Int)) (hc : c < 4) (hr : r < 4) (hs : step ≤ 3) (hb : w0.heap[sb]? = some (.cells #[I step] E)) : Calls Tryz.prog 67 #[.agg (WV s), I c_, I r_, Ptr sb 0] w0 (Ret w0 (U8 (pick s step c r))) := by
  subst hc_
  subst hr_
  refine enter (args := [.agg (WV s), I (c : Int), I (r : Int), Ptr sb 0]) Tryz.func67 rfl rfl ?_
  refine startw fun w hS => ?_
  have hm := mulb4 hr hs
  refine rg ?_
  refine bxa hS rfl rfl rfl ?_
  intro b4 w hb4 hS
  refine asg rfl rfl rfl ?_
  refine wq_then ?_
  refine rg ?_
  refine mv rfl rfl rfl ?_
  refine mv rfl rfl rfl ?_
  refine lod hb List.not_mem_nil sc3 hS rfl rfl rfl rfl ?_
  refine muli (by omega) (by omega) rfl rfl rfl rfl ?_
  refine addi (by omega) (by omega) rfl rfl rfl rfl ?_
  refine andi (D := 4) 2 (by decide) (by decide) (by decide) rfl rfl rfl rfl ?_
  refine ian ((c + (r * step)) % 4) (((c + (r * step)) % 4)) Tryz.underlying67 sz62 rfl rfl rfl rfl (by omega) (by omega) (by omega) ?_
  refine lo 0 sc62 hS rfl rfl rfl rfl (WV_get _ ((c + (r * step)) % 4) (by omega)) ?_
  refine mv rfl rfl rfl ?_
  refine muli (by omega) (by omega) rfl rfl rfl rfl ?_
  refine subi (by omega) (by omega) rfl rfl rfl rfl ?_
  refine shrn32 (24 - (8 * r)) (by omega) rfl rfl rfl rfl ?_
  refine cvu8 Tryz.underlying5 ⟨_, Tryz.underlying62⟩ rfl rfl rfl ?_
  refine asg rfl rfl rfl ?_
  refine wq_then ?_
  refine wc_ret ?_
  refine fin1 (v := U8 (toU8 (((shr32 (gw s ((c + (r * step)) % 4)) (24 - (8 * r))).toNat : Int)))) rfl rfl ?_
  exact ⟨rfl, hS.drop⟩
end Go.Proofs.XZ

/- walks -/
namespace Go.Proofs.XZ
open Go Go.X Go.Proofs
set_option maxRecDepth 100000 in
theorem sp_fast_run (b : V8 16) (kb ko tb to step fid KE TE : Nat) (kcs tcs : Array Value) (kv : V32 44) (tv : V32 256) (g : UInt8 → UInt8) (step_ : Int) (w0 : World) (hstep_ : step_ = (step : Int)) (hs3 : step ≤ 3) (hkb : w0.heap[kb]? = some (.cells kcs KE)) (htb : w0.heap[tb]? = some (.cells tcs TE)) (hk0 : ∀ o i : Nat, o = ko + i → i < 44 → kcs[o]? = some (U32 (gw kv i))) (ht0 : ∀ o i : Nat, o = to + i → i < 256 → tcs[o]? = some (U32 (gw tv i))) (hcf : Callable Tryz.prog fid) (hf : ∀ (x : UInt8) (w : World), St w0 [] [] w → Calls Tryz.prog fid #[U8 x] w (Ret w (U8 (g x)))) : Calls Tryz.prog 47 #[.agg (BV b), Ptr kb ko, Ptr tb to, I step_, .func (.func fid) #[] #[]] w0 (Ret w0 (.agg (BV (runf kv tv step g b)))) := by
  subst hstep_
  refine enter (args := [.agg (BV b), Ptr kb ko, Ptr tb to, I (step : Int), .func (.func fid) #[] #[]]) Tryz.func47 rfl rfl ?_
  refine startw fun w hS => ?_
  refine rg ?_
  refine bxa hS rfl rfl rfl ?_
  intro b5 w hb5 hS
  refine bx1 hS rfl rfl rfl rfl ?_
  intro b8 w hb8 hS
  refine ala zr22 hS rfl rfl ?_
  intro b10 w hb10 hS
  refine wq_then ?_
  refine rg ?_
  refine la 2 ag22 hS rfl rfl rfl rfl (BV_size _) ?_
  refine cv cf25 hS rfl rfl rfl rfl rfl (sp_fast_words (b) _) ?_
  intro w hS
  refine ala zr67 hS rfl rfl ?_
  intro b11 w hb11 hS
  refine sa 0 ag67 hS rfl rfl rfl (WV_one _) rfl (WV_size _) (WV_size _) ?_
  intro w hS
  refine wq_then ?_
  refine wc_seq ?_
  refine rg ?_
  refine mv rfl rfl rfl ?_
  refine wq_then ?_
  refine wc_block ?_
  refine wc_loop (σ := Nat) (fun k => [(1, Ptr kb (ko)), (2, Ptr tb (to)), (4, .func (.func fid) #[] #[]), (8, Ptr b8 0), (10, Ptr b10 0), (11, Ptr b11 0), (23, I ((k : Int)))])
    (fun k w => (k ≤ 4) ∧ St w0 [] [(b11, .cells (WV (fill32 4 (fun i => gw (wds b) i ^^^ gw kv i) (wds b) k)) 67), (b10, .cells (BV (Vector.replicate 16 0)) 22), (b8, .cells (#[I ((step : Int))]) 3), (b5, .cells (BV b) 22)] w) (fun k => 4 - k) 0 ⟨rfl, rfl, rfl, rfl, rfl, rfl, rfl, trivial⟩ ⟨by omega, (by simp only [Nat.zero_mul, Nat.add_zero, fill8_0, fill32_0]; exact hS)⟩ ?_
  rintro k w ⟨hk, hS⟩
  refine rg ?_
  refine lss rfl rfl rfl rfl ?_
  refine wq_then ?_
  refine wc_seq ?_
  refine wc_if rfl (fun hc1 => ?_) (fun hc1 => ?_)
  · skip
    try simp only [SB] at hc1
    refine wc_skip ?_
    refine wq_then ?_
    refine wc_seq ?_
    refine wc_block ?_
    refine rg ?_
    refine mv rfl rfl rfl ?_
    refine asg rfl rfl rfl ?_
    refine wq_then ?_
    refine wc_draw mo 10 (fun w => St w0 [] [(b11, .cells (WV (fill32 4 (fun i => gw (wds b) i ^^^ gw kv i) (wds b) k)) 67), (b10, .cells (BV (Vector.replicate 16 0)) 22), (b8, .cells (#[I ((step : Int))]) 3), (b5, .cells (BV b) 22)] w) ?_
    have hS := hS.drew
    refine dq 0 rfl (by kernel_rfl) (by kernel_rfl) (by kernel_rfl) rfl rfl (fun w hS => mv rfl rfl rfl ⟨rfl, rfl⟩) hS ?_
    refine dq 1 rfl (by kernel_rfl) (by kernel_rfl) (by kernel_rfl) rfl rfl (fun w hS => ian (k) (k) Tryz.underlying67 sz62 rfl rfl rfl rfl (by omega) (by omega) (by omega) ⟨rfl, rfl⟩) hS ?_
    refine dq 2 rfl (by kernel_rfl) (by kernel_rfl) (by kernel_rfl) rfl rfl (fun w hS => lo 0 sc62 hS rfl rfl rfl rfl (WV_get _ k (by omega)) ⟨rfl, rfl⟩) hS ?_
    refine dq 3 rfl (by kernel_rfl) (by kernel_rfl) (by kernel_rfl) rfl rfl (fun w hS => mv rfl rfl rfl ⟨rfl, rfl⟩) hS ?_
    refine dq 4 rfl (by kernel_rfl) (by kernel_rfl) (by kernel_rfl) rfl rfl (fun w hS => mv rfl rfl rfl ⟨rfl, rfl⟩) hS ?_
    refine dq 5 rfl (by kernel_rfl) (by kernel_rfl) (by kernel_rfl) rfl rfl (fun w hS => nilp rfl rfl rfl ⟨rfl, rfl⟩) hS ?_
    refine dq 6 rfl (by kernel_rfl) (by kernel_rfl) (by kernel_rfl) rfl rfl (fun w hS => ian (0) (ko) Tryz.underlying68 sz67 rfl rfl rfl rfl (by omega) (by omega) (by omega) ⟨rfl, rfl⟩) hS ?_
    refine dq 7 rfl (by kernel_rfl) (by kernel_rfl) (by kernel_rfl) rfl rfl (fun w hS => ian (k) (ko + k) Tryz.underlying67 sz62 rfl rfl rfl rfl (by omega) (by omega) (by omega) ⟨rfl, rfl⟩) hS ?_
    refine dq 8 rfl (by kernel_rfl) (by kernel_rfl) (by kernel_rfl) rfl rfl (fun w hS => lod hkb List.not_mem_nil sc62 hS rfl rfl rfl (hk0 _ k (by omega) (by omega)) ⟨rfl, rfl⟩) hS ?_
    refine dq 9 rfl (by kernel_rfl) (by kernel_rfl) (by kernel_rfl) rfl rfl (fun w hS => xor32 rfl rfl rfl rfl ⟨rfl, rfl⟩) hS ?_
    refine dl 10 rfl (by kernel_rfl) ?_
    refine ian (k) (k) Tryz.underlying67 sz62 rfl rfl rfl rfl (by omega) (by omega) (by omega) ?_
    refine ⟨fun h => (by cases h), ?_⟩
    refine dl 11 rfl (by kernel_rfl) ?_
    refine st (cs' := WV (fill32 4 (fun i => gw (wds b) i ^^^ gw kv i) (wds b) (k + 1))) 0 sz62 hS rfl rfl rfl rfl rfl rfl (by rw [WV_size]; omega) (by rw [WV_set, gw_fill_ge _ _ (Nat.le_refl _)]; exact congrArg WV (fill32_succ (fun i => gw (wds b) i ^^^ gw kv i) (wds b) k)) ?_
    intro w hS
    refine ⟨fun h => (by cases h), ?_⟩
    refine de (by kernel_rfl) ?_
    refine q_block_norm ?_
    refine wq_then ?_
    refine wc_region ?_
    refine addi (by omega) (by omega) rfl rfl rfl rfl ?_
    refine mv rfl rfl rfl ?_
    refine again_q (k + 1) ⟨rfl, rfl, rfl, rfl, rfl, rfl, lkI rfl (by first | omega | rfl), trivial⟩ ⟨by omega, hS⟩ (by omega)
  · skip
    try simp only [SB] at hc1
    refine wc_exit ?_
    refine q_then_exit ?_
    refine q_then_exit ?_
    refine q_block_hit ?_
    refine wq_then ?_
    refine rg ?_
    refine mkf rfl rfl rfl ?_
    refine asg rfl rfl rfl ?_
    refine wq_then ?_
    refine wc_seq ?_
    refine rg ?_
    refine asg rfl rfl rfl ?_
    refine wq_then ?_
    refine wc_block ?_
    refine wc_loop (σ := Nat) (fun n => [(1, Ptr kb (ko)), (2, Ptr tb (to)), (4, .func (.func fid) #[] #[]), (10, Ptr b10 0), (11, Ptr b11 0), (13, .func (.func 67) #[] #[Ptr b8 0]), (14, I (((n + 1 : Nat) : Int)))])
      (fun n w => (n ≤ 9) ∧ St w0 [] [(b11, .cells (WV ((stL kv tv step b n))) 67), (b10, .cells (BV (Vector.replicate 16 0)) 22), (b8, .cells (#[I ((step : Int))]) 3), (b5, .cells (BV b) 22)] w) (fun n => 9 - n) 0 ⟨rfl, rfl, rfl, rfl, rfl, rfl, rfl, trivial⟩ ⟨by omega, (run_ini hS (by omega))⟩ ?_
    rintro n w ⟨hn, hS⟩
    refine wc_seq ?_
    refine rg ?_
    refine mv rfl rfl rfl ?_
    refine lss rfl rfl rfl rfl ?_
    refine wq_then ?_
    refine wc_if rfl (fun hc2 => ?_) (fun hc2 => ?_)
    · skip
      try simp only [SB] at hc2
      refine wc_skip ?_
      refine wq_then ?_
      refine wc_seq ?_
      refine wc_block ?_
      refine rg ?_
      refine ala zr67 hS rfl rfl ?_
      intro b15 w hb15 hS
      refine wq_then ?_
      refine wc_seq ?_
      refine rg ?_
      refine mv rfl rfl rfl ?_
      refine wq_then ?_
      refine wc_block ?_
      refine wc_loop (σ := Nat) (fun c => [(1, Ptr kb (ko)), (2, Ptr tb (to)), (4, .func (.func fid) #[] #[]), (10, Ptr b10 0), (11, Ptr b11 0), (13, .func (.func 67) #[] #[Ptr b8 0]), (14, I (((n + 1 : Nat) : Int))), (15, Ptr b15 0), (43, I ((c : Int)))])
        (fun c w => (c ≤ 4) ∧ St w0 [] [(b15, .cells (WV (fill32 4 (fun c => rowL kv tv step (stL kv tv step b n) (n + 1) c 4) (Vector.replicate 4 0) c)) 67), (b11, .cells (WV ((stL kv tv step b n))) 67), (b10, .cells (BV (Vector.replicate 16 0)) 22), (b8, .cells (#[I ((step : Int))]) 3), (b5, .cells (BV b) 22)] w) (fun c => 4 - c) 0 ⟨rfl, rfl, rfl, rfl, rfl, rfl, rfl, rfl, rfl, trivial⟩ ⟨by omega, (by simp only [Nat.zero_mul, Nat.add_zero, fill8_0, fill32_0]; exact hS)⟩ ?_
      rintro c w ⟨hc, hS⟩
      refine rg ?_
      refine lss rfl rfl rfl rfl ?_
      refine wq_then ?_
      refine wc_seq ?_
      refine wc_if rfl (fun hc3 => ?_) (fun hc3 => ?_)
      · skip
        try simp only [SB] at hc3
        refine wc_skip ?_
        refine wq_then ?_
        refine wc_seq ?_
        refine wc_block ?_
        refine rg ?_
        refine mv rfl rfl rfl ?_
        refine asg rfl rfl rfl ?_
        refine wq_then ?_
        refine rg ?_
        refine mv rfl rfl rfl ?_
        refine mv rfl rfl rfl ?_
        refine mv rfl rfl rfl ?_
        refine mv rfl rfl rfl ?_
        refine nilp rfl rfl rfl ?_
        refine ian ((n + 1)) (ko + (n + 1) * 4) Tryz.underlying68 sz67 rfl rfl rfl rfl (by omega) (by omega) (by omega) ?_
        refine ian (c) (ko + (n + 1) * 4 + c) Tryz.underlying67 sz62 rfl rfl rfl rfl (by omega) (by omega) (by omega) ?_
        refine lod hkb List.not_mem_nil sc62 hS rfl rfl rfl (hk0 _ ((n + 1) * 4 + c) (by omega) (by omega)) ?_
        refine ian (c) (c) Tryz.underlying67 sz62 rfl rfl rfl rfl (by omega) (by omega) (by omega) ?_
        refine st 0 sz62 hS rfl rfl rfl rfl rfl rfl (by rw [WV_size]; omega) (WV_set _ _ (gw kv ((n + 1) * 4 + c) : UInt32)) ?_
        intro w hS
        refine wq_then ?_
        refine rg ?_
        refine mv rfl rfl rfl ?_
        refine wq_then ?_
        refine wc_block ?_
        refine wc_loop (σ := Nat) (fun q => [(1, Ptr kb (ko)), (2, Ptr tb (to)), (4, .func (.func fid) #[] #[]), (10, Ptr b10 0), (11, Ptr b11 0), (13, .func (.func 67) #[] #[Ptr b8 0]), (14, I (((n + 1 : Nat) : Int))), (15, Ptr b15 0), (16, I ((c : Int))), (43, I ((c : Int))), (55, I ((q : Int)))])
          (fun q w => (q ≤ 4) ∧ St w0 [] [(b15, .cells (WV ((fill32 4 (fun c => rowL kv tv step (stL kv tv step b n) (n + 1) c 4) (Vector.replicate 4 0) c).setIfInBounds c (rowL kv tv step (stL kv tv step b n) (n + 1) c q))) 67), (b11, .cells (WV ((stL kv tv step b n))) 67), (b10, .cells (BV (Vector.replicate 16 0)) 22), (b8, .cells (#[I ((step : Int))]) 3), (b5, .cells (BV b) 22)] w) (fun q => 4 - q) 0 ⟨rfl, rfl, rfl, rfl, rfl, rfl, rfl, rfl, rfl, rfl, rfl, trivial⟩ ⟨by omega, hS⟩ ?_
        rintro q w ⟨hq, hS⟩
        refine rg ?_
        refine lss rfl rfl rfl rfl ?_
        refine wq_then ?_
        refine wc_seq ?_
        refine wc_if rfl (fun hc4 => ?_) (fun hc4 => ?_)
        · skip
          try simp only [SB] at hc4
          refine wc_skip ?_
          refine wq_then ?_
          refine wc_seq ?_
          refine wc_block ?_
          refine rg ?_
          refine mv rfl rfl rfl ?_
          refine asg rfl rfl rfl ?_
          refine wq_then ?_
          refine rd mo 9 (fun w => St w0 [] [(b15, .cells (WV ((fill32 4 (fun c => rowL kv tv step (stL kv tv step b n) (n + 1) c 4) (Vector.replicate 4 0) c).setIfInBounds c (rowL kv tv step (stL kv tv step b n) (n + 1) c q))) 67), (b11, .cells (WV ((stL kv tv step b n))) 67), (b10, .cells (BV (Vector.replicate 16 0)) 22), (b8, .cells (#[I ((step : Int))]) 3), (b5, .cells (BV b) 22)] w) ?_
          have hS := hS.drew
          refine dq 0 rfl (by kernel_rfl) (by kernel_rfl) (by kernel_rfl) rfl rfl (fun w hS => mv rfl rfl rfl ⟨rfl, rfl⟩) hS ?_
          refine dq 1 rfl (by kernel_rfl) (by kernel_rfl) (by kernel_rfl) rfl rfl (fun w hS => mv rfl rfl rfl ⟨rfl, rfl⟩) hS ?_
          refine dq 2 rfl (by kernel_rfl) (by kernel_rfl) (by kernel_rfl) rfl rfl (fun w hS => la 1 ag67 hS rfl rfl rfl rfl (WV_size _) ⟨rfl, rfl⟩) hS ?_
          refine dq 3 rfl (by kernel_rfl) (by kernel_rfl) (by kernel_rfl) rfl rfl (fun w hS => mv rfl rfl rfl ⟨rfl, rfl⟩) hS ?_
          refine dq 4 rfl (by kernel_rfl) (by kernel_rfl) (by kernel_rfl) rfl rfl (fun w hS => mv rfl rfl rfl ⟨rfl, rfl⟩) hS ?_
          refine dq 6 rfl (by kernel_rfl) (by kernel_rfl) (by kernel_rfl) rfl rfl (fun w hS => nilp rfl rfl rfl ⟨rfl, rfl⟩) hS ?_
          refine dl 5 rfl (by kernel_rfl) ?_
          refine cv cf67 hS rfl rfl rfl rfl rfl (sp_fast_run_1 ((stL kv tv step b n)) (c) (q) (b8) (_) (step) _ _ _ (by omega) (by omega) (by omega) (by omega) (by omega) (hS.get 3 rfl)) ?_
          intro w hS
          refine ⟨fun _ => hS, ?_⟩
          refine dq 7 rfl (by kernel_rfl) (by kernel_rfl) (by kernel_rfl) rfl rfl (fun w hS => ian ((pick (stL kv tv step b n) step c q).toNat) (to + ((pick (stL kv tv step b n) step c q).toNat)) Tryz.underlying63 sz62 rfl rfl rfl rfl (by omega) (by have := (pick (stL kv tv step b n) step c q).toNat_lt; omega) (by omega) ⟨rfl, rfl⟩) hS ?_
          refine dq 8 rfl (by kernel_rfl) (by kernel_rfl) (by kernel_rfl) rfl rfl (fun w hS => lod htb List.not_mem_nil sc62 hS rfl rfl rfl (ht0 _ ((pick (stL kv tv step b n) step c q).toNat) (by have := (pick (stL kv tv step b n) step c q).toNat_lt; omega) (by have := (pick (stL kv tv step b n) step c q).toNat_lt; omega)) ⟨rfl, rfl⟩) hS ?_
          refine dl 9 rfl (by kernel_rfl) ?_
          refine asg rfl rfl rfl ?_
          refine ⟨fun h => (by cases h), ?_⟩
          refine de (by kernel_rfl) ?_
          refine wq_then ?_
          refine wc_seq ?_
          refine rg ?_
          refine mv rfl rfl rfl ?_
          refine gtr rfl rfl rfl rfl ?_
          refine wq_then ?_
          refine wc_if rfl (fun hc5 => ?_) (fun hc5 => ?_)
          · skip
            try simp only [SB] at hc5
            refine wc_region ?_
            refine mv rfl rfl rfl ?_
            refine mv rfl rfl rfl ?_
            refine cv cf68 hS rfl rfl rfl rfl rfl (sp_fast_rotate ((gw tv ((pick (stL kv tv step b n) step c q).toNat))) (q) _ _ (by omega) (by omega)) ?_
            intro w hS
            refine asg rfl rfl rfl ?_
            refine wq_then ?_
            refine wc_region ?_
            refine mv rfl rfl rfl ?_
            refine ian (c) (c) Tryz.underlying67 sz62 rfl rfl rfl rfl (by omega) (by omega) (by omega) ?_
            refine lo 0 sc62 hS rfl rfl rfl rfl (WV_get _ c (by omega)) ?_
            refine mv rfl rfl rfl ?_
            refine xor32 rfl rfl rfl rfl ?_
            refine ian (c) (c) Tryz.underlying67 sz62 rfl rfl rfl rfl (by omega) (by omega) (by omega) ?_
            refine st (cs' := WV ((fill32 4 (fun c => rowL kv tv step (stL kv tv step b n) (n + 1) c 4) (Vector.replicate 4 0) c).setIfInBounds c (rowL kv tv step (stL kv tv step b n) (n + 1) c (q + 1)))) 0 sz62 hS rfl rfl rfl rfl rfl rfl (by rw [WV_size]; omega) (by rw [WV_set]; exact congrArg WV (run_qp _ (by omega) (by omega))) ?_
            intro w hS
            refine q_block_norm ?_
            refine wq_then ?_
            refine wc_region ?_
            refine addi (by omega) (by omega) rfl rfl rfl rfl ?_
            refine mv rfl rfl rfl ?_
            refine again_q (q + 1) ⟨rfl, rfl, rfl, rfl, rfl, rfl, rfl, rfl, rfl, rfl, lkI rfl (by first | omega | rfl), trivial⟩ ⟨by omega, hS⟩ (by omega)
          · skip
            try simp only [SB] at hc5
            refine wc_skip ?_
            refine wq_then ?_
            refine wc_region ?_
            refine mv rfl rfl rfl ?_
            refine ian (c) (c) Tryz.underlying67 sz62 rfl rfl rfl rfl (by omega) (by omega) (by omega) ?_
            refine lo 0 sc62 hS rfl rfl rfl rfl (WV_get _ c (by omega)) ?_
            refine mv rfl rfl rfl ?_
            refine xor32 rfl rfl rfl rfl ?_
            refine ian (c) (c) Tryz.underlying67 sz62 rfl rfl rfl rfl (by omega) (by omega) (by omega) ?_
            refine st (cs' := WV ((fill32 4 (fun c => rowL kv tv step (stL kv tv step b n) (n + 1) c 4) (Vector.replicate 4 0) c).setIfInBounds c (rowL kv tv step (stL kv tv step b n) (n + 1) c (q + 1)))) 0 sz62 hS rfl rfl rfl rfl rfl rfl (by rw [WV_size]; omega) (by rw [WV_set]; exact congrArg WV (run_qz _ (by omega) (by omega))) ?_
            intro w hS
            refine q_block_norm ?_
            refine wq_then ?_
            refine wc_region ?_
            refine addi (by omega) (by omega) rfl rfl rfl rfl ?_
            refine mv rfl rfl rfl ?_
            refine again_q (q + 1) ⟨rfl, rfl, rfl, rfl, rfl, rfl, rfl, rfl, rfl, rfl, lkI rfl (by first | omega | rfl), trivial⟩ ⟨by omega, hS⟩ (by omega)
        · skip
          try simp only [SB] at hc4
          refine wc_exit ?_
          refine q_then_exit ?_
          refine q_then_exit ?_
          refine q_block_hit ?_
          refine q_block_norm ?_
          refine wq_then ?_
          refine wc_region ?_
          refine addi (by omega) (by omega) rfl rfl rfl rfl ?_
          refine mv rfl rfl rfl ?_
          refine again_q (c + 1) ⟨rfl, rfl, rfl, rfl, rfl, rfl, rfl, rfl, lkI rfl (by first | omega | rfl), trivial⟩ ⟨by omega, (run_cel hS (by omega))⟩ (by omega)
      · skip
        try simp only [SB] at hc3
        refine wc_exit ?_
        refine q_then_exit ?_
        refine q_then_exit ?_
        refine q_block_hit ?_
        refine wq_then ?_
        refine wc_region ?_
        refine la 0 ag67 hS rfl rfl rfl rfl (WV_size _) ?_
        refine sa 1 ag67 hS rfl rfl rfl (WV_one _) rfl (WV_size _) (WV_size _) ?_
        intro w hS
        refine q_block_norm ?_
        refine wq_then ?_
        refine wc_region ?_
        refine mv rfl rfl rfl ?_
        refine addi (by omega) (by omega) rfl rfl rfl rfl ?_
        refine asg rfl rfl rfl ?_
        refine again_q (n + 1) ⟨rfl, rfl, rfl, rfl, rfl, rfl, lkI rfl (by first | omega | rfl), trivial⟩ ⟨by omega, (run_rnd hS.tl (by omega))⟩ (by omega)
    · skip
      try simp only [SB] at hc2
      have hn9 : n = 9 := by omega
      obtain ⟨s9, hs9⟩ : ∃ s9, s9 = stL kv tv step b n := ⟨_, rfl⟩
      rw [← hs9] at hS
      refine wc_exit ?_
      refine q_then_exit ?_
      refine q_then_exit ?_
      refine q_block_hit ?_
      refine wq_then ?_
      refine rg ?_
      refine ala zr22 hS rfl rfl ?_
      intro b19 w hb19 hS
      refine wq_then ?_
      refine wc_seq ?_
      refine rg ?_
      refine mv rfl rfl rfl ?_
      refine wq_then ?_
      refine wc_block ?_
      refine wc_loop (σ := Nat) (fun k => [(1, Ptr kb (ko)), (4, .func (.func fid) #[] #[]), (10, Ptr b10 0), (11, Ptr b11 0), (13, .func (.func 67) #[] #[Ptr b8 0]), (19, Ptr b19 0), (81, I ((k : Int)))])
        (fun k w => (k ≤ 16) ∧ St w0 [] [(b19, .cells (BV (fill8 16 (lastf kv step g s9) (Vector.replicate 16 0) k)) 22), (b11, .cells (WV s9) 67), (b10, .cells (BV (Vector.replicate 16 0)) 22), (b8, .cells (#[I ((step : Int))]) 3), (b5, .cells (BV b) 22)] w) (fun k => 16 - k) 0 ⟨rfl, rfl, rfl, rfl, rfl, rfl, rfl, trivial⟩ ⟨by omega, (by simp only [Nat.zero_mul, Nat.add_zero, fill8_0, fill32_0]; exact hS)⟩ ?_
      rintro k w ⟨hk, hS⟩
      refine rg ?_
      refine lss rfl rfl rfl rfl ?_
      refine wq_then ?_
      refine wc_seq ?_
      refine wc_if rfl (fun hc6 => ?_) (fun hc6 => ?_)
      · skip
        try simp only [SB] at hc6
        refine wc_skip ?_
        refine wq_then ?_
        refine wc_seq ?_
        refine wc_block ?_
        refine rg ?_
        refine mv rfl rfl rfl ?_
        refine asg rfl rfl rfl ?_
        refine wq_then ?_
        refine wc_draw mo 24 (fun w => St w0 [] [(b19, .cells (BV (fill8 16 (lastf kv step g s9) (Vector.replicate 16 0) k)) 22), (b11, .cells (WV s9) 67), (b10, .cells (BV (Vector.replicate 16 0)) 22), (b8, .cells (#[I ((step : Int))]) 3), (b5, .cells (BV b) 22)] w) ?_
        have hS := hS.drew
        refine dq 0 rfl (by kernel_rfl) (by kernel_rfl) (by kernel_rfl) rfl rfl (fun w hS => mv rfl rfl rfl ⟨rfl, rfl⟩) hS ?_
        refine dq 1 rfl (by kernel_rfl) (by kernel_rfl) (by kernel_rfl) rfl rfl (fun w hS => mv rfl rfl rfl ⟨rfl, rfl⟩) hS ?_
        refine dq 2 rfl (by kernel_rfl) (by kernel_rfl) (by kernel_rfl) rfl rfl (fun w hS => mv rfl rfl rfl ⟨rfl, rfl⟩) hS ?_
        refine dq 3 rfl (by kernel_rfl) (by kernel_rfl) (by kernel_rfl) rfl rfl (fun w hS => la 1 ag67 hS rfl rfl rfl rfl (WV_size _) ⟨rfl, rfl⟩) hS ?_
        refine dq 4 rfl (by kernel_rfl) (by kernel_rfl) (by kernel_rfl) rfl rfl (fun w hS => mv rfl rfl rfl ⟨rfl, rfl⟩) hS ?_
        refine dq 5 rfl (by kernel_rfl) (by kernel_rfl) (by kernel_rfl) rfl rfl (fun w hS => shri (D := 4) (by decide) (by decide) (by decide) rfl rfl rfl rfl ⟨rfl, rfl⟩) hS ?_
        refine dq 6 rfl (by kernel_rfl) (by kernel_rfl) (by kernel_rfl) rfl rfl (fun w hS => mv rfl rfl rfl ⟨rfl, rfl⟩) hS ?_
        refine dq 7 rfl (by kernel_rfl) (by kernel_rfl) (by kernel_rfl) rfl rfl (fun w hS => andi (D := 4) 2 (by decide) (by decide) (by decide) rfl rfl rfl rfl ⟨rfl, rfl⟩) hS ?_
        refine dq 10 rfl (by kernel_rfl) (by kernel_rfl) (by kernel_rfl) rfl rfl (fun w hS => mv rfl rfl rfl ⟨rfl, rfl⟩) hS ?_
        refine dq 11 rfl (by kernel_rfl) (by kernel_rfl) (by kernel_rfl) rfl rfl (fun w hS => mv rfl rfl rfl ⟨rfl, rfl⟩) hS ?_
        refine dq 12 rfl (by kernel_rfl) (by kernel_rfl) (by kernel_rfl) rfl rfl (fun w hS => shri (D := 4) (by decide) (by decide) (by decide) rfl rfl rfl rfl ⟨rfl, rfl⟩) hS ?_
        refine dq 13 rfl (by kernel_rfl) (by kernel_rfl) (by kernel_rfl) rfl rfl (fun w hS => nilp rfl rfl rfl ⟨rfl, rfl⟩) hS ?_
        refine dq 14 rfl (by kernel_rfl) (by kernel_rfl) (by kernel_rfl) rfl rfl (fun w hS => ian (10) (ko + 40) Tryz.underlying68 sz67 rfl rfl rfl rfl (by omega) (by omega) (by omega) ⟨rfl, rfl⟩) hS ?_
        refine dq 15 rfl (by kernel_rfl) (by kernel_rfl) (by kernel_rfl) rfl rfl (fun w hS => ian (k / 4) (ko + 40 + (k / 4)) Tryz.underlying67 sz62 rfl rfl rfl rfl (by omega) (by omega) (by omega) ⟨rfl, rfl⟩) hS ?_
        refine dq 16 rfl (by kernel_rfl) (by kernel_rfl) (by kernel_rfl) rfl rfl (fun w hS => lod hkb List.not_mem_nil sc62 hS rfl rfl rfl (hk0 _ (40 + (k / 4)) (by omega) (by omega)) ⟨rfl, rfl⟩) hS ?_
        refine dq 17 rfl (by kernel_rfl) (by kernel_rfl) (by kernel_rfl) rfl rfl (fun w hS => mv rfl rfl rfl ⟨rfl, rfl⟩) hS ?_
        refine dq 18 rfl (by kernel_rfl) (by kernel_rfl) (by kernel_rfl) rfl rfl (fun w hS => andi (D := 4) 2 (by decide) (by decide) (by decide) rfl rfl rfl rfl ⟨rfl, rfl⟩) hS ?_
        refine dq 19 rfl (by kernel_rfl) (by kernel_rfl) (by kernel_rfl) rfl rfl (fun w hS => muli (by omega) (by omega) rfl rfl rfl rfl ⟨rfl, rfl⟩) hS ?_
        refine dq 20 rfl (by kernel_rfl) (by kernel_rfl) (by kernel_rfl) rfl rfl (fun w hS => subi (by omega) (by omega) rfl rfl rfl rfl ⟨rfl, rfl⟩) hS ?_
        refine dq 21 rfl (by kernel_rfl) (by kernel_rfl) (by kernel_rfl) rfl rfl (fun w hS => shrn32 (24 - (8 * (k % 4))) (by omega) rfl rfl rfl rfl ⟨rfl, rfl⟩) hS ?_
        refine dq 22 rfl (by kernel_rfl) (by kernel_rfl) (by kernel_rfl) rfl rfl (fun w hS => cvu8 Tryz.underlying5 ⟨_, Tryz.underlying62⟩ rfl rfl rfl ⟨rfl, rfl⟩) hS ?_
        refine dl 8 rfl (by kernel_rfl) ?_
        refine cv cf67 hS rfl rfl rfl rfl rfl (sp_fast_run_1 (s9) ((k / 4)) ((k % 4)) (b8) (_) (step) _ _ _ (by omega) (by omega) (by omega) (by omega) (by omega) (hS.get 3 rfl)) ?_
        intro w hS
        refine ⟨fun _ => hS, ?_⟩
        refine dl 9 rfl (by kernel_rfl) ?_
        refine cv hcf hS rfl rfl rfl rfl rfl (hf _ _ hS.drop) ?_
        intro w hS
        refine ⟨fun _ => hS, ?_⟩
        refine dq 23 rfl (by kernel_rfl) (by kernel_rfl) (by kernel_rfl) rfl rfl (fun w hS => xor8 rfl rfl rfl rfl ⟨rfl, rfl⟩) hS ?_
        refine dl 24 rfl (by kernel_rfl) ?_
        refine ian (k) (k) Tryz.underlying22 sz5 rfl rfl rfl rfl (by omega) (by omega) (by omega) ?_
        refine ⟨fun h => (by cases h), ?_⟩
        refine dl 25 rfl (by kernel_rfl) ?_
        refine st (cs' := BV (fill8 16 (lastf kv step g s9) (Vector.replicate 16 0) (k + 1))) 0 sz5 hS rfl rfl rfl rfl rfl rfl (by rw [BV_size]; omega) (by rw [BV_set]; exact congrArg BV (fill8_succ (lastf kv step g s9) (Vector.replicate 16 0) k)) ?_
        intro w hS
        refine ⟨fun h => (by cases h), ?_⟩
        refine de (by kernel_rfl) ?_
        refine q_block_norm ?_
        refine wq_then ?_
        refine wc_region ?_
        refine addi (by omega) (by omega) rfl rfl rfl rfl ?_
        refine mv rfl rfl rfl ?_
        refine again_q (k + 1) ⟨rfl, rfl, rfl, rfl, rfl, rfl, lkI rfl (by first | omega | rfl), trivial⟩ ⟨by omega, hS⟩ (by omega)
      · skip
        try simp only [SB] at hc6
        refine wc_exit ?_
        refine q_then_exit ?_
        refine q_then_exit ?_
        refine q_block_hit ?_
        refine wq_then ?_
        refine rg ?_
        refine la 0 ag22 hS rfl rfl rfl rfl (BV_size _) ?_
        refine sa 2 ag22 hS rfl rfl rfl (BV_one _) rfl (BV_size _) (BV_size _) ?_
        intro w hS
        refine wq_then ?_
        refine wc_ret ?_
        refine fin1 (v := .agg (BV (fill8 16 (lastf kv step g s9) (Vector.replicate 16 0) k))) rfl ⟨_, rfl, lv_a ag22 (hS.get 2 rfl) (BV_size _)⟩ ?_
        refine ⟨?_, hS.drop⟩
        have hk4 : k = 16 := by omega
        subst hk4; rw [fill8_n, hs9, hn9]; rfl
end Go.Proofs.XZ

/- walks -/
namespace Go.Proofs.XZ
open Go Go.X Go.Proofs
set_option maxRecDepth 100000 in
theorem sp_fast_Cipher_right (c E : Nat) (key : V8 16) (w0 : World) (hC : w0.heap[c]? = some (.cells (cipherC key) E)) : Calls Tryz.prog 46 #[Ptr c 0] w0 (Ret w0 (Ptr c 0)) := by
  refine enter (args := [Ptr c 0]) Tryz.func46 rfl rfl ?_
  refine startw fun w hS => ?_
  refine rg ?_
  refine asg rfl rfl rfl ?_
  refine wq_then ?_
  refine wc_seq ?_
  refine rg ?_
  refine mv rfl rfl rfl ?_
  refine eqpn Tryz.underlying32 rfl rfl rfl rfl ?_
  refine mv rfl rfl rfl ?_
  refine mv rfl rfl rfl ?_
  refine nilp rfl rfl rfl ?_
  refine fan (0) (0) Tryz.underlying70 rfl sz4 (by decide) rfl rfl rfl rfl (by omega) ?_
  refine lod hC List.not_mem_nil sc4 hS rfl rfl rfl (cat_l (a := 1) rfl (by omega) rfl) ?_
  refine notb rfl rfl rfl ?_
  refine pk_f rfl rfl rfl rfl ?_
  refine wq_then ?_
  refine wc_if_f rfl ?_
  refine wc_skip ?_
  refine wq_then ?_
  refine rg ?_
  refine mv rfl rfl rfl ?_
  refine asg rfl rfl rfl ?_
  refine wq_then ?_
  refine wc_ret ?_
  refine fin1 (v := Ptr c 0) rfl rfl ?_
  exact ⟨rfl, hS.drop⟩
end Go.Proofs.XZ

/- walks -/
namespace Go.Proofs.XZ
open Go Go.X Go.Proofs
set_option maxRecDepth 100000 in
theorem sp_fast_Cipher_Encrypt (c E : Nat) (key : V8 16) (b : V8 16) (w0 : World) (hC : w0.heap[c]? = some (.cells (cipherC key) E)) : Calls Tryz.prog 21 #[Ptr c 0, .agg (BV b)] w0 (Ret w0 (.agg (BV (enc key b)))) := by
  refine enter (args := [Ptr c 0, .agg (BV b)]) Tryz.func21 rfl rfl ?_
  refine startw fun w hS => ?_
  refine rg ?_
  refine bxa hS rfl rfl rfl ?_
  intro b3 w hb3 hS
  refine ala zr22 hS rfl rfl ?_
  intro b4 w hb4 hS
  refine wq_then ?_
  refine rg ?_
  refine mv rfl rfl rfl ?_
  refine cv cf46 hS rfl rfl rfl rfl rfl (sp_fast_Cipher_right (c) (_) (_) _ (hS.old hC List.not_mem_nil)) ?_
  intro w hS
  refine asg rfl rfl rfl ?_
  refine wq_then ?_
  refine rd mo 9 (fun w => St w0 [] [(b4, .cells (BV (Vector.replicate 16 0)) 22), (b3, .cells (BV b) 22)] w) ?_
  have hS := hS.drew
  refine dq 0 rfl (by kernel_rfl) (by kernel_rfl) (by kernel_rfl) rfl rfl (fun w hS => la 1 ag22 hS rfl rfl rfl rfl (BV_size _) ⟨rfl, rfl⟩) hS ?_
  refine dq 1 rfl (by kernel_rfl) (by kernel_rfl) (by kernel_rfl) rfl rfl (fun w hS => mv rfl rfl rfl ⟨rfl, rfl⟩) hS ?_
  refine dq 2 rfl (by kernel_rfl) (by kernel_rfl) (by kernel_rfl) rfl rfl (fun w hS => nilp rfl rfl rfl ⟨rfl, rfl⟩) hS ?_
  refine dq 3 rfl (by kernel_rfl) (by kernel_rfl) (by kernel_rfl) rfl rfl (fun w hS => fan (1) (1) Tryz.underlying70 rfl sz68 (by decide) rfl rfl rfl rfl (by omega) ⟨rfl, rfl⟩) hS ?_
  refine dq 4 rfl (by kernel_rfl) (by kernel_rfl) (by kernel_rfl) rfl rfl (fun w hS => mv rfl rfl rfl ⟨rfl, rfl⟩) hS ?_
  refine dq 5 rfl (by kernel_rfl) (by kernel_rfl) (by kernel_rfl) rfl rfl (fun w hS => nilp rfl rfl rfl ⟨rfl, rfl⟩) hS ?_
  refine dq 6 rfl (by kernel_rfl) (by kernel_rfl) (by kernel_rfl) rfl rfl (fun w hS => fan (105) (105) Tryz.underlying70 rfl sz65 (by decide) rfl rfl rfl rfl (by omega) ⟨rfl, rfl⟩) hS ?_
  refine dq 7 rfl (by kernel_rfl) (by kernel_rfl) (by kernel_rfl) rfl rfl (fun w hS => fan (0) (105) Tryz.underlying65 rfl sz63 (by decide) rfl rfl rfl rfl (by omega) ⟨rfl, rfl⟩) hS ?_
  refine dl 8 rfl (by kernel_rfl) ?_
  refine cv cf47 hS rfl rfl rfl rfl rfl (sp_fast_run b c 1 c 105 1 48 _ _ (cipherC key) (cipherC key) (fwK key 11) fwdT sbox _ _ rfl (by omega) (hS.old hC List.not_mem_nil) (hS.old hC List.not_mem_nil) (ci_fw key) (ci_t key) cf48 (fun x w _ => sp_sbox_S x w)) ?_
  intro w hS
  refine ⟨fun _ => hS, ?_⟩
  refine dl 9 rfl (by kernel_rfl) ?_
  refine sa 0 ag22 hS rfl rfl rfl (BV_one _) rfl (BV_size _) (BV_size _) ?_
  intro w hS
  refine ⟨fun h => (by cases h), ?_⟩
  refine de (by kernel_rfl) ?_
  refine wq_then ?_
  refine wc_ret ?_
  refine fin1 (v := .agg (BV (runf (fwK key 11) fwdT 1 sbox b))) rfl ⟨_, rfl, lv_a ag22 (hS.get 0 rfl) (BV_size _)⟩ ?_
  exact ⟨rfl, hS.drop⟩
end Go.Proofs.XZ

/- walks -/
namespace Go.Proofs.XZ
open Go Go.X Go.Proofs
set_option maxRecDepth 100000 in
theorem sp_block_Double (b : V8 16) (w0 : World) : Calls Tryz.prog 22 #[.agg (BV b)] w0 (Ret w0 (.agg (BV (dblB b)))) := by
  refine enter (args := [.agg (BV b)]) Tryz.func22 rfl rfl ?_
  refine startw fun w hS => ?_
  refine rg ?_
  refine bxa hS rfl rfl rfl ?_
  intro b1 w hb1 hS
  refine ala zr22 hS rfl rfl ?_
  intro b2 w hb2 hS
  refine wq_then ?_
  refine rg ?_
  refine ala zr22 hS rfl rfl ?_
  intro b3 w hb3 hS
  refine wq_then ?_
  refine wc_seq ?_
  refine rg ?_
  refine mv rfl rfl rfl ?_
  refine wq_then ?_
  refine wc_block ?_
  refine wc_loop (σ := Nat) (fun k => [(1, Ptr b1 0), (2, Ptr b2 0), (3, Ptr b3 0), (5, I ((k : Int)))])
    (fun k w => (k ≤ 16) ∧ St w0 [] [(b3, .cells (BV (fill8 16 (dblf b) (Vector.replicate 16 0) k)) 22), (b2, .cells (BV (Vector.replicate 16 0)) 22), (b1, .cells (BV b) 22)] w) (fun k => 16 - k) 0 ⟨rfl, rfl, rfl, rfl, trivial⟩ ⟨by omega, (by simp only [Nat.zero_mul, Nat.add_zero, fill8_0, fill32_0]; exact hS)⟩ ?_
  rintro k w ⟨hk, hS⟩
  refine rg ?_
  refine lss rfl rfl rfl rfl ?_
  refine wq_then ?_
  refine wc_seq ?_
  refine wc_if rfl (fun hc1 => ?_) (fun hc1 => ?_)
  · skip
    try simp only [SB] at hc1
    refine wc_skip ?_
    refine wq_then ?_
    refine wc_seq ?_
    refine wc_block ?_
    refine rg ?_
    refine mv rfl rfl rfl ?_
    refine asg rfl rfl rfl ?_
    refine wq_then ?_
    refine rg ?_
    refine mv rfl rfl rfl ?_
    refine mv rfl rfl rfl ?_
    refine ian (k) (k) Tryz.underlying22 sz5 rfl rfl rfl rfl (by omega) (by omega) (by omega) ?_
    refine lo 2 sc5 hS rfl rfl rfl rfl (BV_get _ k (by omega)) ?_
    refine shln8 (1) (by omega) rfl rfl rfl rfl ?_
    refine ian (k) (k) Tryz.underlying22 sz5 rfl rfl rfl rfl (by omega) (by omega) (by omega) ?_
    refine st 0 sz5 hS rfl rfl rfl rfl rfl rfl (by rw [BV_size]; omega) (BV_set _ _ (shl8 (gv b k) 1 : UInt8)) ?_
    intro w hS
    refine wq_then ?_
    refine rg ?_
    refine mv rfl rfl rfl ?_
    refine addi (by omega) (by omega) rfl rfl rfl rfl ?_
    refine lss rfl rfl rfl rfl ?_
    refine wq_then ?_
    refine wc_if rfl (fun hc2 => ?_) (fun hc2 => ?_)
    · skip
      try simp only [SB] at hc2
      refine wc_draw mo 9 (fun w => St w0 [] [(b3, .cells (BV ((fill8 16 (dblf b) (Vector.replicate 16 0) k).setIfInBounds k (shl8 (gv b k) 1))) 22), (b2, .cells (BV (Vector.replicate 16 0)) 22), (b1, .cells (BV b) 22)] w) ?_
      have hS := hS.drew
      refine dq 0 rfl (by kernel_rfl) (by kernel_rfl) (by kernel_rfl) rfl rfl (fun w hS => mv rfl rfl rfl ⟨rfl, rfl⟩) hS ?_
      refine dq 1 rfl (by kernel_rfl) (by kernel_rfl) (by kernel_rfl) rfl rfl (fun w hS => ian (k) (k) Tryz.underlying22 sz5 rfl rfl rfl rfl (by omega) (by omega) (by omega) ⟨rfl, rfl⟩) hS ?_
      refine dq 2 rfl (by kernel_rfl) (by kernel_rfl) (by kernel_rfl) rfl rfl (fun w hS => lo 0 sc5 hS rfl rfl rfl rfl (BV_get _ k (by omega)) ⟨rfl, rfl⟩) hS ?_
      refine dq 3 rfl (by kernel_rfl) (by kernel_rfl) (by kernel_rfl) rfl rfl (fun w hS => mv rfl rfl rfl ⟨rfl, rfl⟩) hS ?_
      refine dq 4 rfl (by kernel_rfl) (by kernel_rfl) (by kernel_rfl) rfl rfl (fun w hS => addi (by omega) (by omega) rfl rfl rfl rfl ⟨rfl, rfl⟩) hS ?_
      refine dq 5 rfl (by kernel_rfl) (by kernel_rfl) (by kernel_rfl) rfl rfl (fun w hS => ian (k + 1) ((k + 1)) Tryz.underlying22 sz5 rfl rfl rfl rfl (by omega) (by omega) (by omega) ⟨rfl, rfl⟩) hS ?_
      refine dq 6 rfl (by kernel_rfl) (by kernel_rfl) (by kernel_rfl) rfl rfl (fun w hS => lo 2 sc5 hS rfl rfl rfl rfl (BV_get _ (k + 1) (by omega)) ⟨rfl, rfl⟩) hS ?_
      refine dq 7 rfl (by kernel_rfl) (by kernel_rfl) (by kernel_rfl) rfl rfl (fun w hS => shrn8 (7) (by omega) rfl rfl rfl rfl ⟨rfl, rfl⟩) hS ?_
      refine dq 8 rfl (by kernel_rfl) (by kernel_rfl) (by kernel_rfl) rfl rfl (fun w hS => or8 rfl rfl rfl rfl ⟨rfl, rfl⟩) hS ?_
      refine dl 9 rfl (by kernel_rfl) ?_
      refine ian (k) (k) Tryz.underlying22 sz5 rfl rfl rfl rfl (by omega) (by omega) (by omega) ?_
      refine ⟨fun h => (by cases h), ?_⟩
      refine dl 10 rfl (by kernel_rfl) ?_
      refine st (cs' := BV (fill8 16 (dblf b) (Vector.replicate 16 0) (k + 1))) 0 sz5 hS rfl rfl rfl rfl rfl rfl (by rw [BV_size]; omega) (by rw [BV_set]; exact congrArg BV (dbl_t (by omega))) ?_
      intro w hS
      refine ⟨fun h => (by cases h), ?_⟩
      refine de (by kernel_rfl) ?_
      refine q_block_norm ?_
      refine wq_then ?_
      refine wc_region ?_
      refine addi (by omega) (by omega) rfl rfl rfl rfl ?_
      refine mv rfl rfl rfl ?_
      refine again_q (k + 1) ⟨rfl, rfl, rfl, lkI rfl (by first | omega | rfl), trivial⟩ ⟨by omega, hS⟩ (by omega)
    · skip
      try simp only [SB] at hc2
      have hS := dbl_end hS (by omega)
      refine wc_skip ?_
      refine q_block_norm ?_
      refine wq_then ?_
      refine wc_region ?_
      refine addi (by omega) (by omega) rfl rfl rfl rfl ?_
      refine mv rfl rfl rfl ?_
      refine again_q (k + 1) ⟨rfl, rfl, rfl, lkI rfl (by first | omega | rfl), trivial⟩ ⟨by omega, hS⟩ (by omega)
  · skip
    try simp only [SB] at hc1
    have hk4 : k = 16 := by omega
    subst hk4
    rw [fill8_n] at hS
    refine wc_exit ?_
    refine q_then_exit ?_
    refine q_then_exit ?_
    refine q_block_hit ?_
    refine wq_then ?_
    refine rg ?_
    refine ian (15) (15) Tryz.underlying22 sz5 rfl rfl rfl rfl (by omega) (by omega) (by omega) ?_
    refine lo 0 sc5 hS rfl rfl rfl rfl (BV_get _ 15 (by omega)) ?_
    refine ian (0) (0) Tryz.underlying22 sz5 rfl rfl rfl rfl (by omega) (by omega) (by omega) ?_
    refine lo 2 sc5 hS rfl rfl rfl rfl (BV_get _ 0 (by omega)) ?_
    refine cvk (q := IntKind.i8.wrap ((gv b 0).toNat : Int)) Tryz.underlying101 ⟨_, Tryz.underlying5⟩ rfl rfl rfl rfl ?_
    refine shrk (q := Int.fdiv (IntKind.i8.wrap ((gv b 0).toNat : Int)) (2 ^ 7)) (m := 7) (by decide) rfl rfl rfl rfl rfl ?_
    refine cvu8 Tryz.underlying5 ⟨_, Tryz.underlying101⟩ rfl rfl rfl ?_
    refine and8 (q := (135 : UInt8)) rfl rfl rfl rfl ?_
    refine xor8 rfl rfl rfl rfl ?_
    refine ian (15) (15) Tryz.underlying22 sz5 rfl rfl rfl rfl (by omega) (by omega) (by omega) ?_
    refine st 0 sz5 hS rfl rfl rfl rfl rfl rfl (by rw [BV_size]; omega) (BV_set _ _ ((gv (Vector.ofFn fun i => dblf b i.val : V8 16) 15) ^^^ ((toU8 ((Int.fdiv (IntKind.i8.wrap ((gv b 0).toNat : Int)) (2 ^ 7)))) &&& 135) : UInt8)) ?_
    intro w hS
    refine wq_then ?_
    refine rg ?_
    refine la 0 ag22 hS rfl rfl rfl rfl (BV_size _) ?_
    refine sa 1 ag22 hS rfl rfl rfl (BV_one _) rfl (BV_size _) (BV_size _) ?_
    intro w hS
    refine wq_then ?_
    refine wc_ret ?_
    refine fin1 (v := .agg (BV ((Vector.ofFn fun i => dblf b i.val : V8 16).setIfInBounds 15 ((gv (Vector.ofFn fun i => dblf b i.val : V8 16) 15) ^^^ ((toU8 ((Int.fdiv (IntKind.i8.wrap ((gv b 0).toNat : Int)) (2 ^ 7)))) &&& 135))))) rfl ⟨_, rfl, lv_a ag22 (hS.get 1 rfl) (BV_size _)⟩ ?_
    exact ⟨rfl, hS.drop⟩
end Go.Proofs.XZ

/- walks -/
namespace Go.Proofs.XZ
open Go Go.X Go.Proofs
set_option maxRecDepth 100000 in
theorem sp_table_New (c E : Nat) (key : V8 16) (w0 : World) (hC : w0.heap[c]? = some (.cells (cipherC key) E)) : Calls Tryz.prog 7 #[Ptr c 0] w0 (RetS w0 (fun v L => ∃ t, v = Ptr t 0 ∧ L = [(t, .cells (tableC c key) 61)])) := by
  refine enter (args := [Ptr c 0]) Tryz.func7 rfl rfl ?_
  refine startw fun w hS => ?_
  refine rg ?_
  refine asg rfl rfl rfl ?_
  refine wq_then ?_
  refine rg ?_
  refine mv rfl rfl rfl ?_
  refine mv rfl rfl rfl ?_
  refine bd (cs := BV (Vector.replicate 16 0)) rfl rfl rfl (by kernel_rfl) ?_
  refine cv cf21 hS rfl rfl rfl rfl rfl (sp_fast_Cipher_Encrypt (c) (_) (key) ((Vector.replicate 16 0)) _ (hS.old hC List.not_mem_nil)) ?_
  intro w hS
  refine bd (cs := #[Ptr c 0] ++ (BV (enc key (Vector.replicate 16 0)) ++ (BV (Vector.replicate 16 0) ++ BV (Vector.replicate 1024 0)))) rfl rfl rfl ((bu61 _).trans (fill_1 (off := 0) rfl rfl (le_sz (a := 1057) (cat_size (a := 1) (b := 1056) rfl (cat_size (a := 16) (b := 1040) (BV_size _) (cat_size (a := 16) (b := 1024) (BV_size _) (BV_size _)))) (by omega)) (cat_sl (a := 1) rfl (by omega) rfl) <| fill_w (off := 1) (size := 16) rfl (BV_size _) (le_sz (a := 1057) (cat_size (a := 1) (b := 1056) rfl (cat_size (a := 16) (b := 1040) (BV_size _) (cat_size (a := 16) (b := 1024) (BV_size _) (BV_size _)))) (by omega)) (cat_pr (a := 1) (o' := 0) rfl (by omega) (ple2 (BV_size _) (cat_size (a := 16) (b := 1040) (BV_size _) (cat_size (a := 16) (b := 1024) (BV_size _) (BV_size _))) (by omega)) (cat_pl (a := 16) (BV_size _) (ple (BV_size _) (by omega)) (put_all (BV_size _) (BV_size _)))) <| rfl)) ?_
  refine bxa hS rfl rfl rfl ?_
  intro b11 w hb11 hS
  refine asg rfl rfl rfl ?_
  refine wq_then ?_
  refine rg ?_
  refine mv rfl rfl rfl ?_
  refine mv rfl rfl rfl ?_
  refine nilp rfl rfl rfl ?_
  refine fan (1) (1) Tryz.underlying61 rfl sz22 (by decide) rfl rfl rfl rfl (by omega) ?_
  refine lp (u := .agg (BV (enc key (Vector.replicate 16 0)))) 0 ag22 hS rfl rfl rfl rfl (le_sz (a := 1057) (cat_size (a := 1) (b := 1056) rfl (cat_size (a := 16) (b := 1040) (BV_size _) (cat_size (a := 16) (b := 1024) (BV_size _) (BV_size _)))) (by omega)) (cat_xr (a := 1) (o' := 0) rfl (by omega) (cat_xl (a := 16) (BV_size _) (by omega) (ext_all (BV_size _)))) rfl ?_
  refine cv cf22 hS rfl rfl rfl rfl rfl (sp_block_Double ((enc key (Vector.replicate 16 0))) _) ?_
  intro w hS
  refine nilp rfl rfl rfl ?_
  refine fan (17) (17) Tryz.underlying61 rfl sz22 (by decide) rfl rfl rfl rfl (by omega) ?_
  refine spp (cs' := #[Ptr c 0] ++ (BV (enc key (Vector.replicate 16 0)) ++ (BV (dblB (enc key (Vector.replicate 16 0))) ++ BV (Vector.replicate 1024 0)))) 0 ag22 hS rfl rfl rfl (BV_one _) rfl (le_sz (a := 1057) (cat_size (a := 1) (b := 1056) rfl (cat_size (a := 16) (b := 1040) (BV_size _) (cat_size (a := 16) (b := 1024) (BV_size _) (BV_size _)))) (by omega)) (BV_size _) (cat_pr (a := 1) (o' := 16) rfl (by omega) (ple2 (BV_size _) (cat_size (a := 16) (b := 1040) (BV_size _) (cat_size (a := 16) (b := 1024) (BV_size _) (BV_size _))) (by omega)) (cat_pr (a := 16) (o' := 0) (BV_size _) (by omega) (ple2 (BV_size _) (cat_size (a := 16) (b := 1024) (BV_size _) (BV_size _)) (by omega)) (cat_pl (a := 16) (BV_size _) (ple (BV_size _) (by omega)) (put_all (BV_size _) (BV_size _))))) ?_
  intro w hS
  refine wq_then ?_
  refine rg ?_
  refine mv rfl rfl rfl ?_
  refine nilp rfl rfl rfl ?_
  refine fan (17) (17) Tryz.underlying61 rfl sz22 (by decide) rfl rfl rfl rfl (by omega) ?_
  refine lp (u := .agg (BV (dblB (enc key (Vector.replicate 16 0))))) 0 ag22 hS rfl rfl rfl rfl (le_sz (a := 1057) (cat_size (a := 1) (b := 1056) rfl (cat_size (a := 16) (b := 1040) (BV_size _) (cat_size (a := 16) (b := 1024) (BV_size _) (BV_size _)))) (by omega)) (cat_xr (a := 1) (o' := 16) rfl (by omega) (cat_xr (a := 16) (o' := 0) (BV_size _) (by omega) (cat_xl (a := 16) (BV_size _) (by omega) (ext_all (BV_size _))))) rfl ?_
  refine ala zr22 hS rfl rfl ?_
  intro b4 w hb4 hS
  refine sa 0 ag22 hS rfl rfl rfl (BV_one _) rfl (BV_size _) (BV_size _) ?_
  intro w hS
  refine wq_then ?_
  refine wc_seq ?_
  refine rg ?_
  refine mv rfl rfl rfl ?_
  refine wq_then ?_
  refine wc_block ?_
  refine wc_loop (σ := Nat) (fun k => [(2, (.pointer none)), (3, Ptr b11 0), (4, Ptr b4 0), (24, I ((k : Int)))])
    (fun k w => (k ≤ 64) ∧ St w0 [] [(b4, .cells (BV (lastL key k)) 22), (b11, .cells (#[Ptr c 0] ++ (BV (star key) ++ (BV (lastL key 0) ++ BV (blkL key k)))) 61)] w) (fun k => 64 - k) 0 ⟨rfl, rfl, rfl, rfl, trivial⟩ ⟨by omega, hS⟩ ?_
  rintro k w ⟨hk, hS⟩
  refine rg ?_
  refine lss rfl rfl rfl rfl ?_
  refine wq_then ?_
  refine wc_seq ?_
  refine wc_if rfl (fun hc1 => ?_) (fun hc1 => ?_)
  · skip
    try simp only [SB] at hc1
    refine wc_skip ?_
    refine wq_then ?_
    refine wc_seq ?_
    refine wc_block ?_
    refine rg ?_
    refine mv rfl rfl rfl ?_
    refine asg rfl rfl rfl ?_
    refine wq_then ?_
    refine rg ?_
    refine la 0 ag22 hS rfl rfl rfl rfl (BV_size _) ?_
    refine cv cf22 hS rfl rfl rfl rfl rfl (sp_block_Double ((lastL key k)) _) ?_
    intro w hS
    refine sa 0 ag22 hS rfl rfl rfl (BV_one _) rfl (BV_size _) (BV_size _) ?_
    intro w hS
    refine wq_then ?_
    refine wc_draw mo 7 (fun w => St w0 [] [(b4, .cells (BV (dblB (lastL key k))) 22)] w) ?_
    have hS := hS.drew
    refine dq 0 rfl (by kernel_rfl) (by kernel_rfl) (by kernel_rfl) rfl rfl (fun w hS => mv rfl rfl rfl ⟨rfl, rfl⟩) (hS.sublist (.cons_cons _ (.cons _ (List.nil_sublist _)))) ?_
    refine dq 1 rfl (by kernel_rfl) (by kernel_rfl) (by kernel_rfl) rfl rfl (fun w hS => mv rfl rfl rfl ⟨rfl, rfl⟩) (hS.sublist (.cons_cons _ (.cons _ (List.nil_sublist _)))) ?_
    refine dq 2 rfl (by kernel_rfl) (by kernel_rfl) (by kernel_rfl) rfl rfl (fun w hS => la 0 ag22 hS rfl rfl rfl rfl (BV_size _) ⟨rfl, rfl⟩) (hS.sublist (.cons_cons _ (.cons _ (List.nil_sublist _)))) ?_
    refine dq 3 rfl (by kernel_rfl) (by kernel_rfl) (by kernel_rfl) rfl rfl (fun w hS => nilp rfl rfl rfl ⟨rfl, rfl⟩) (hS.sublist (.cons_cons _ (.cons _ (List.nil_sublist _)))) ?_
    refine dq 4 rfl (by kernel_rfl) (by kernel_rfl) (by kernel_rfl) rfl rfl (fun w hS => fan (33) (33) Tryz.underlying61 rfl sz59 (by decide) rfl rfl rfl rfl (by omega) ⟨rfl, rfl⟩) (hS.sublist (.cons_cons _ (.cons _ (List.nil_sublist _)))) ?_
    refine dq 5 rfl (by kernel_rfl) (by kernel_rfl) (by kernel_rfl) rfl rfl (fun w hS => ian (k) (33 + k * 16) Tryz.underlying59 sz22 rfl rfl rfl rfl (by omega) (by omega) (by omega) ⟨rfl, rfl⟩) (hS.sublist (.cons_cons _ (.cons _ (List.nil_sublist _)))) ?_
    refine dl 6 rfl (by kernel_rfl) ?_
    refine spp (cs' := #[Ptr c 0] ++ (BV (star key) ++ (BV (lastL key 0) ++ BV (put8 (blkL key k) (k * 16) (dblB (lastL key k)))))) 1 ag22 hS rfl rfl rfl (BV_one _) rfl (le_sz (a := 1057) (cat_size (a := 1) (b := 1056) rfl (cat_size (a := 16) (b := 1040) (BV_size _) (cat_size (a := 16) (b := 1024) (BV_size _) (BV_size _)))) (by omega)) (BV_size _) (cat_pr (a := 1) (o' := 32 + k * 16) rfl (by omega) (ple2 (BV_size _) (cat_size (a := 16) (b := 1040) (BV_size _) (cat_size (a := 16) (b := 1024) (BV_size _) (BV_size _))) (by omega)) (cat_pr (a := 16) (o' := 16 + k * 16) (BV_size _) (by omega) (ple2 (BV_size _) (cat_size (a := 16) (b := 1024) (BV_size _) (BV_size _)) (by omega)) (cat_pr (a := 16) (o' := k * 16) (BV_size _) (by omega) (ple2 (BV_size _) (BV_size _) (by omega)) (BV_put _ _ _ (by omega))))) ?_
    intro w hS
    refine ⟨fun _ => (hS.sublist (.cons_cons _ (.cons _ (List.nil_sublist _)))), ?_⟩
    refine de (by kernel_rfl) ?_
    refine q_block_norm ?_
    refine wq_then ?_
    refine wc_region ?_
    refine addi (by omega) (by omega) rfl rfl rfl rfl ?_
    refine mv rfl rfl rfl ?_
    refine again_q (k + 1) ⟨rfl, rfl, rfl, lkI rfl (by first | omega | rfl), trivial⟩ ⟨by omega, hS⟩ (by omega)
  · skip
    try simp only [SB] at hc1
    refine wc_exit ?_
    refine q_then_exit ?_
    refine q_then_exit ?_
    refine q_block_hit ?_
    refine wq_then ?_
    refine rg ?_
    refine mv rfl rfl rfl ?_
    refine asg rfl rfl rfl ?_
    refine wq_then ?_
    refine wc_ret ?_
    refine fin1 (v := Ptr b11 0) rfl rfl ?_
    have hk : k = 64 := by omega
    subst hk
    exact ⟨_, _, rfl, ⟨b11, rfl, rfl⟩, hS.sublist (.cons _ (.cons_cons _ (List.nil_sublist _)))⟩
end Go.Proofs.XZ

/- walks -/
namespace Go.Proofs.XZ
open Go Go.X Go.Proofs
set_option maxRecDepth 100000 in
theorem sp_packet_check (d : Int) (s : UInt64) (t e : UInt16) (a : Option Addr) (n cap : Nat) (w0 : World) : Calls Tryz.prog 27 #[.agg #[I d, U64 s, U16 t, U16 e, .slice a n cap]] w0 (Ret w0 (errV 40 (chk d s n))) := by
  refine enter (args := [.agg #[I d, U64 s, U16 t, U16 e, .slice a n cap]]) Tryz.func27 rfl rfl ?_
  refine startw fun w hS => ?_
  refine rg ?_
  refine bxa hS rfl rfl rfl ?_
  intro b1 w hb1 hS
  refine asg rfl rfl rfl ?_
  refine wq_then ?_
  refine wc_seq ?_
  refine wc_block ?_
  refine rg ?_
  refine fan (0) (0) Tryz.underlying27 rfl sz3 (by decide) rfl rfl rfl rfl (by omega) ?_
  refine lo 0 sc3 hS rfl rfl rfl rfl rfl ?_
  refine nei rfl rfl rfl rfl ?_
  refine mv rfl rfl rfl ?_
  refine spl 7 rfl (fun hb1 => ?_) (fun hb1 => ?_)
  · skip
    try simp only [SB] at hb1
    refine fan (0) (0) Tryz.underlying27 rfl sz3 (by decide) rfl rfl rfl rfl (by omega) ?_
    refine lo 0 sc3 hS rfl rfl rfl rfl rfl ?_
    refine nei rfl rfl rfl rfl ?_
    refine pk_t rfl rfl rfl rfl ?_
    refine asg rfl rfl rfl ?_
    refine wq_then ?_
    refine wc_if rfl (fun hc1 => ?_) (fun hc1 => ?_)
    · skip
      try simp only [SB] at hc1
      refine rg ?_
      refine mki cc40 rfl rfl rfl ?_
      refine asg rfl rfl rfl ?_
      refine wq_then ?_
      refine wc_ret ?_
      refine q_block_ret ?_
      refine q_then_ret ?_
      refine fin1 (v := (.iface 40 (I (8)))) rfl rfl ?_
      refine ⟨?_, hS.drop⟩
      have hk : chk d s n = 8 := by simp only [chk]; (repeat' split) <;> omega
      rw [hk]; rfl
    · skip
      try simp only [SB] at hc1
      refine rg ?_
      refine fan (1) (1) Tryz.underlying27 rfl sz23 (by decide) rfl rfl rfl rfl (by omega) ?_
      refine lo 0 sc23 hS rfl rfl rfl rfl rfl ?_
      refine gtr rfl rfl rfl rfl ?_
      refine asg rfl rfl rfl ?_
      refine wq_then ?_
      refine wc_if rfl (fun hc2 => ?_) (fun hc2 => ?_)
      · skip
        try simp only [SB] at hc2
        refine rg ?_
        refine mki cc40 rfl rfl rfl ?_
        refine asg rfl rfl rfl ?_
        refine wq_then ?_
        refine wc_ret ?_
        refine q_block_ret ?_
        refine q_then_ret ?_
        refine fin1 (v := (.iface 40 (I (5)))) rfl rfl ?_
        refine ⟨?_, hS.drop⟩
        have hk : chk d s n = 5 := by simp only [chk]; (repeat' split) <;> omega
        rw [hk]; rfl
      · skip
        try simp only [SB] at hc2
        refine rg ?_
        refine fan (4) (4) Tryz.underlying27 rfl sz25 (by decide) rfl rfl rfl rfl (by omega) ?_
        refine lo 0 sc25 hS rfl rfl rfl rfl rfl ?_
        refine lens Tryz.underlying25 rfl rfl rfl ?_
        refine gtr rfl rfl rfl rfl ?_
        refine asg rfl rfl rfl ?_
        refine wq_then ?_
        refine wc_if rfl (fun hc3 => ?_) (fun hc3 => ?_)
        · skip
          try simp only [SB] at hc3
          refine rg ?_
          refine mki cc40 rfl rfl rfl ?_
          refine asg rfl rfl rfl ?_
          refine wq_then ?_
          refine wc_ret ?_
          refine q_block_ret ?_
          refine q_then_ret ?_
          refine fin1 (v := (.iface 40 (I (2)))) rfl rfl ?_
          refine ⟨?_, hS.drop⟩
          have hk : chk d s n = 2 := by simp only [chk]; (repeat' split) <;> omega
          rw [hk]; rfl
        · skip
          try simp only [SB] at hc3
          refine wc_skip ?_
          refine q_block_norm ?_
          refine wq_then ?_
          refine rg ?_
          refine asg rfl rfl rfl ?_
          refine wq_then ?_
          refine wc_ret ?_
          refine fin1 (v := .nilIface) rfl rfl ?_
          refine ⟨?_, hS.drop⟩
          have hk : chk d s n = 0 := by simp only [chk]; (repeat' split) <;> omega
          rw [hk]; rfl
  · skip
    try simp only [SB] at hb1
    refine no rfl rfl ?_
    refine no rfl rfl ?_
    refine no rfl rfl ?_
    refine pk_f rfl rfl rfl rfl ?_
    refine asg rfl rfl rfl ?_
    refine wq_then ?_
    refine wc_if_f rfl ?_
    refine rg ?_
    refine fan (1) (1) Tryz.underlying27 rfl sz23 (by decide) rfl rfl rfl rfl (by omega) ?_
    refine lo 0 sc23 hS rfl rfl rfl rfl rfl ?_
    refine gtr rfl rfl rfl rfl ?_
    refine asg rfl rfl rfl ?_
    refine wq_then ?_
    refine wc_if rfl (fun hc4 => ?_) (fun hc4 => ?_)
    · skip
      try simp only [SB] at hc4
      refine rg ?_
      refine mki cc40 rfl rfl rfl ?_
      refine asg rfl rfl rfl ?_
      refine wq_then ?_
      refine wc_ret ?_
      refine q_block_ret ?_
      refine q_then_ret ?_
      refine fin1 (v := (.iface 40 (I (5)))) rfl rfl ?_
      refine ⟨?_, hS.drop⟩
      have hk : chk d s n = 5 := by simp only [chk]; (repeat' split) <;> omega
      rw [hk]; rfl
    · skip
      try simp only [SB] at hc4
      refine rg ?_
      refine fan (4) (4) Tryz.underlying27 rfl sz25 (by decide) rfl rfl rfl rfl (by omega) ?_
      refine lo 0 sc25 hS rfl rfl rfl rfl rfl ?_
      refine lens Tryz.underlying25 rfl rfl rfl ?_
      refine gtr rfl rfl rfl rfl ?_
      refine asg rfl rfl rfl ?_
      refine wq_then ?_
      refine wc_if rfl (fun hc5 => ?_) (fun hc5 => ?_)
      · skip
        try simp only [SB] at hc5
        refine rg ?_
        refine mki cc40 rfl rfl rfl ?_
        refine asg rfl rfl rfl ?_
        refine wq_then ?_
        refine wc_ret ?_
        refine q_block_ret ?_
        refine q_then_ret ?_
        refine fin1 (v := (.iface 40 (I (2)))) rfl rfl ?_
        refine ⟨?_, hS.drop⟩
        have hk : chk d s n = 2 := by simp only [chk]; (repeat' split) <;> omega
        rw [hk]; rfl
      · skip
        try simp only [SB] at hc5
        refine wc_skip ?_
        refine q_block_norm ?_
        refine wq_then ?_
        refine rg ?_
        refine asg rfl rfl rfl ?_
        refine wq_then ?_
        refine wc_ret ?_
        refine fin1 (v := .nilIface) rfl rfl ?_
        refine ⟨?_, hS.drop⟩
        have hk : chk d s n = 0 := by simp only [chk]; (repeat' split) <;> omega
        rw [hk]; rfl
end Go.Proofs.XZ

/- walks -/
namespace Go.Proofs.XZ
open Go Go.X Go.Proofs
set_option maxRecDepth 100000 in
theorem sp_packet_Right (d : Int) (s : UInt64) (t e : UInt16) (a : Option Addr) (n cap : Nat) (w0 : World) : Calls Tryz.prog 11 #[.agg #[I d, U64 s, U16 t, U16 e, .slice a n cap]] w0 (Ret w0 (.bool (decide (chk d s n = 0)))) := by
  refine enter (args := [.agg #[I d, U64 s, U16 t, U16 e, .slice a n cap]]) Tryz.func11 rfl rfl ?_
  refine startw fun w hS => ?_
  refine rg ?_
  refine bxa hS rfl rfl rfl ?_
  intro b1 w hb1 hS
  refine asg rfl rfl rfl ?_
  refine wq_then ?_
  refine rg ?_
  refine la 0 ag27 hS rfl rfl rfl rfl rfl ?_
  refine cv cf27 hS rfl rfl rfl rfl rfl (sp_packet_check (d) (s) (t) (e) (a) (n) (cap) _) ?_
  intro w hS
  refine eqE (C := 40) (c := (chk d s n)) Tryz.underlying35 rfl rfl rfl ?_
  refine asg rfl rfl rfl ?_
  refine wq_then ?_
  refine wc_ret ?_
  refine fin1 (v := .bool (decide ((chk d s n) = 0))) rfl rfl ?_
  exact ⟨rfl, hS.drop⟩
end Go.Proofs.XZ

/- walks -/
namespace Go.Proofs.XZ
open Go Go.X Go.Proofs
set_option maxRecDepth 100000 in
theorem sp_packet_Size (p : Int) (w0 : World) : Calls Tryz.prog 19 #[I p] w0 (Ret w0 (I (if 0 ≤ p ∧ p ≤ 1200 then p + 28 else 0))) := by
  refine enter (args := [I p]) Tryz.func19 rfl rfl ?_
  refine startw fun w hS => ?_
  refine rg ?_
  refine asg rfl rfl rfl ?_
  refine wq_then ?_
  refine wc_seq ?_
  refine rg ?_
  refine mv rfl rfl rfl ?_
  refine lss rfl rfl rfl rfl ?_
  refine mv rfl rfl rfl ?_
  refine spl 5 rfl (fun hb1 => ?_) (fun hb1 => ?_)
  · skip
    try simp only [SB] at hb1
    refine no rfl rfl ?_
    refine no rfl rfl ?_
    refine pk_t rfl rfl rfl rfl ?_
    refine wq_then ?_
    refine wc_if_t rfl ?_
    refine rg ?_
    refine asg rfl rfl rfl ?_
    refine wq_then ?_
    refine wc_ret ?_
    refine q_then_ret ?_
    refine fin1 (v := I (0)) rfl rfl ?_
    refine ⟨?_, hS.drop⟩
    rw [if_neg (by omega)]
  · skip
    try simp only [SB] at hb1
    refine mv rfl rfl rfl ?_
    refine gtr rfl rfl rfl rfl ?_
    refine pk_f rfl rfl rfl rfl ?_
    refine wq_then ?_
    refine wc_if rfl (fun hc1 => ?_) (fun hc1 => ?_)
    · skip
      try simp only [SB] at hc1
      refine rg ?_
      refine asg rfl rfl rfl ?_
      refine wq_then ?_
      refine wc_ret ?_
      refine q_then_ret ?_
      refine fin1 (v := I (0)) rfl rfl ?_
      refine ⟨?_, hS.drop⟩
      rw [if_neg (by omega)]
    · skip
      try simp only [SB] at hc1
      refine wc_skip ?_
      refine wq_then ?_
      refine rg ?_
      refine mv rfl rfl rfl ?_
      refine addi (by omega) (by omega) rfl rfl rfl rfl ?_
      refine asg rfl rfl rfl ?_
      refine wq_then ?_
      refine wc_ret ?_
      refine fin1 (v := I (p + 28)) rfl rfl ?_
      refine ⟨?_, hS.drop⟩
      rw [if_pos (by omega)]
end Go.Proofs.XZ

/- walks -/
namespace Go.Proofs.XZ
open Go Go.X Go.Proofs
set_option maxRecDepth 100000 in
theorem sp_slices_Equal_byte_byte (a : Option Addr) (n cap : Nat) (bs : List UInt8) (a2 : Option Addr) (n2 cap2 : Nat) (bs2 : List UInt8) (w0 : World) (hn : bs.length = n) (hN : n ≤ 1000000) (hc : Cel w0 a (c8 bs)) (hn2 : bs2.length = n2) (hN2 : n2 ≤ 1000000) (he2 : Cel w0 a2 (c8 bs2)) : Calls Tryz.prog 45 #[.slice a n cap, .slice a2 n2 cap2] w0 (Ret w0 (.bool (decide (bs = bs2)))) := by
  refine enter (args := [.slice a n cap, .slice a2 n2 cap2]) Tryz.func45 rfl rfl ?_
  refine startw fun w hS => ?_
  refine rg ?_
  refine asg rfl rfl rfl ?_
  refine wq_then ?_
  refine wc_seq ?_
  refine rg ?_
  refine mv rfl rfl rfl ?_
  refine lens Tryz.underlying25 rfl rfl rfl ?_
  refine mv rfl rfl rfl ?_
  refine lens Tryz.underlying25 rfl rfl rfl ?_
  refine nei rfl rfl rfl rfl ?_
  refine wq_then ?_
  refine wc_if rfl (fun hc1 => ?_) (fun hc1 => ?_)
  · skip
    try simp only [SB] at hc1
    refine rg ?_
    refine asg rfl rfl rfl ?_
    refine wq_then ?_
    refine wc_ret ?_
    refine q_then_ret ?_
    refine fin1 (v := .bool (false)) rfl rfl ?_
    refine ⟨?_, hS.drop⟩
    rw [decide_eq_false (fun e => by rw [e] at hn; omega)]
  · skip
    try simp only [SB] at hc1
    refine wc_skip ?_
    refine wq_then ?_
    refine wc_seq ?_
    refine rg ?_
    refine mv rfl rfl rfl ?_
    refine lens Tryz.underlying25 rfl rfl rfl ?_
    refine mv rfl rfl rfl ?_
    refine wq_then ?_
    refine wc_block ?_
    refine wc_loop (σ := Nat) (fun k => [(0, .slice a n cap), (1, .slice a2 n2 cap2), (12, I (((n : Nat) : Int))), (13, I ((k : Int)))])
      (fun k w => (k ≤ n ∧ bs.take k = bs2.take k) ∧ St w0 [] [] w) (fun k => n - k) 0 ⟨rfl, rfl, rfl, rfl, trivial⟩ ⟨⟨by omega, rfl⟩, hS⟩ ?_
    rintro k w ⟨⟨hk, hk2⟩, hS⟩
    refine rg ?_
    refine lss rfl rfl rfl rfl ?_
    refine wq_then ?_
    refine wc_seq ?_
    refine wc_if rfl (fun hc2 => ?_) (fun hc2 => ?_)
    · skip
      try simp only [SB] at hc2
      refine wc_skip ?_
      refine wq_then ?_
      refine wc_seq ?_
      refine wc_block ?_
      refine rg ?_
      refine mv rfl rfl rfl ?_
      refine asg rfl rfl rfl ?_
      refine wq_then ?_
      refine rd mo 9 (fun w => St w0 [] [] w) ?_
      have hS := hS.drew
      refine dq 0 rfl (by kernel_rfl) (by kernel_rfl) (by kernel_rfl) rfl rfl (fun w hS => mv rfl rfl rfl ⟨rfl, rfl⟩) hS ?_
      refine dq 1 rfl (by kernel_rfl) (by kernel_rfl) (by kernel_rfl) rfl rfl (fun w hS => mv rfl rfl rfl ⟨rfl, rfl⟩) hS ?_
      refine dq 2 rfl (by kernel_rfl) (by kernel_rfl) (by kernel_rfl) rfl rfl (fun w hS => slx (k) Tryz.underlying25 sz5 rfl rfl rfl rfl (by omega) (by omega) ((hc.st hS).some8 (j := k) (by first | omega | (simp; done) | (simp; omega))) ⟨rfl, rfl⟩) hS ?_
      refine dq 3 rfl (by kernel_rfl) (by kernel_rfl) (by kernel_rfl) rfl rfl (fun w hS => ldx sc5 rfl rfl rfl (hc.st hS) (by first | omega | (simp; done) | (simp; omega)) ⟨rfl, rfl⟩) hS ?_
      refine dq 4 rfl (by kernel_rfl) (by kernel_rfl) (by kernel_rfl) rfl rfl (fun w hS => mv rfl rfl rfl ⟨rfl, rfl⟩) hS ?_
      refine dq 5 rfl (by kernel_rfl) (by kernel_rfl) (by kernel_rfl) rfl rfl (fun w hS => mv rfl rfl rfl ⟨rfl, rfl⟩) hS ?_
      refine dq 6 rfl (by kernel_rfl) (by kernel_rfl) (by kernel_rfl) rfl rfl (fun w hS => slx (k) Tryz.underlying25 sz5 rfl rfl rfl rfl (by omega) (by omega) ((he2.st hS).some8 (j := k) (by first | omega | (simp; done) | (simp; omega))) ⟨rfl, rfl⟩) hS ?_
      refine dq 7 rfl (by kernel_rfl) (by kernel_rfl) (by kernel_rfl) rfl rfl (fun w hS => ldx sc5 rfl rfl rfl (he2.st hS) (by first | omega | (simp; done) | (simp; omega)) ⟨rfl, rfl⟩) hS ?_
      refine dq 8 rfl (by kernel_rfl) (by kernel_rfl) (by kernel_rfl) rfl rfl (fun w hS => nei rfl rfl rfl rfl ⟨rfl, rfl⟩) hS ?_
      refine de (by kernel_rfl) ?_
      refine wq_then ?_
      refine wc_if rfl (fun hc3 => ?_) (fun hc3 => ?_)
      · skip
        try simp only [SB] at hc3
        refine rg ?_
        refine asg rfl rfl rfl ?_
        refine wq_then ?_
        refine wc_ret ?_
        refine q_block_ret ?_
        refine q_then_ret ?_
        refine q_then_ret ?_
        refine q_block_ret ?_
        refine q_then_ret ?_
        refine fin1 (v := .bool (false)) rfl rfl ?_
        refine ⟨?_, hS.drop⟩
        rw [decide_eq_false (take_ne (k := k) (fun e => by rw [e] at hc3; exact hc3 rfl))]
      · skip
        try simp only [SB] at hc3
        have hge : gl bs k = gl bs2 k := UInt8.toNat_inj.1 (by omega)
        refine wc_skip ?_
        refine q_block_norm ?_
        refine wq_then ?_
        refine wc_region ?_
        refine addi (by omega) (by omega) rfl rfl rfl rfl ?_
        refine mv rfl rfl rfl ?_
        refine again_q (k + 1) ⟨rfl, rfl, rfl, lkI rfl (by first | omega | rfl), trivial⟩ ⟨⟨by omega, take_step (by omega) (by omega) hk2 hge⟩, hS⟩ (by omega)
    · skip
      try simp only [SB] at hc2
      refine wc_exit ?_
      refine q_then_exit ?_
      refine q_then_exit ?_
      refine q_block_hit ?_
      refine wq_then ?_
      refine rg ?_
      refine asg rfl rfl rfl ?_
      refine wq_then ?_
      refine wc_ret ?_
      refine fin1 (v := .bool (true)) rfl rfl ?_
      refine ⟨?_, hS.drop⟩
      have hk4 : k = bs.length := by omega
      have hk5 : k = bs2.length := by omega
      rw [decide_eq_true (by have h := hk2; rw [List.take_of_length_le (by omega), List.take_of_length_le (by omega)] at h; exact h)]
end Go.Proofs.XZ

/- walks -/
namespace Go.Proofs.XZ
open Go Go.X Go.Proofs
set_option maxRecDepth 100000 in
theorem sp_packet_Same_1 (d : Int) (s : UInt64) (t e : UInt16) (a : Option Addr) (n cap : Nat) (w0 : World) : Calls Tryz.prog 44 #[.agg #[I d, U64 s, U16 t, U16 e, .slice a n cap]] w0 (Ret w0 (.agg (DV (restV d s t e)))) := by
  refine enter (args := [.agg #[I d, U64 s, U16 t, U16 e, .slice a n cap]]) Tryz.func44 rfl rfl ?_
  refine startw fun w hS => ?_
  refine rg ?_
  refine bxa hS rfl rfl rfl ?_
  intro b1 w hb1 hS
  refine ala zr94 hS rfl rfl ?_
  intro b2 w hb2 hS
  refine wq_then ?_
  refine rg ?_
  refine fan (0) (0) Tryz.underlying27 rfl sz3 (by decide) rfl rfl rfl rfl (by omega) ?_
  refine lo 1 sc3 hS rfl rfl rfl rfl rfl ?_
  refine cvu64 Tryz.underlying23 ⟨_, Tryz.underlying3⟩ rfl rfl rfl ?_
  refine fan (1) (1) Tryz.underlying27 rfl sz23 (by decide) rfl rfl rfl rfl (by omega) ?_
  refine lo 1 sc23 hS rfl rfl rfl rfl rfl ?_
  refine fan (2) (2) Tryz.underlying27 rfl sz24 (by decide) rfl rfl rfl rfl (by omega) ?_
  refine lo 1 sc24 hS rfl rfl rfl rfl rfl ?_
  refine cvu64 Tryz.underlying23 ⟨_, Tryz.underlying24⟩ rfl rfl rfl ?_
  refine fan (3) (3) Tryz.underlying27 rfl sz24 (by decide) rfl rfl rfl rfl (by omega) ?_
  refine lo 1 sc24 hS rfl rfl rfl rfl rfl ?_
  refine cvu64 Tryz.underlying23 ⟨_, Tryz.underlying24⟩ rfl rfl rfl ?_
  refine bd (cs := DV (#v[toU64 (d), s, toU64 (((t).toNat : Int)), toU64 (((e).toNat : Int))])) rfl rfl rfl (by kernel_rfl) ?_
  refine sa 0 ag94 hS rfl rfl rfl (DV_one _) rfl (DV_size _) (DV_size _) ?_
  intro w hS
  refine wq_then ?_
  refine wc_ret ?_
  refine fin1 (v := .agg (DV (#v[toU64 (d), s, toU64 (((t).toNat : Int)), toU64 (((e).toNat : Int))]))) rfl ⟨_, rfl, lv_a ag94 (hS.get 0 rfl) (DV_size _)⟩ ?_
  exact ⟨rfl, hS.drop⟩
end Go.Proofs.XZ

/- walks -/
namespace Go.Proofs.XZ
open Go Go.X Go.Proofs
set_option maxRecDepth 100000 in
theorem sp_packet_Same (d : Int) (s : UInt64) (t e : UInt16) (a : Option Addr) (n cap : Nat) (bs : List UInt8) (d2 : Int) (s2 : UInt64) (t2 e2 : UInt16) (a2 : Option Addr) (n2 cap2 : Nat) (bs2 : List UInt8) (w0 : World) (hn : bs.length = n) (hN : n ≤ 1000000) (he : Cel w0 a (c8 bs)) (hn2 : bs2.length = n2) (hN2 : n2 ≤ 1000000) (he2 : Cel w0 a2 (c8 bs2)) : Calls Tryz.prog 20 #[.agg #[I d, U64 s, U16 t, U16 e, .slice a n cap], .agg #[I d2, U64 s2, U16 t2, U16 e2, .slice a2 n2 cap2]] w0 (Ret w0 (.bool (sameV (restV d s t e) (restV d2 s2 t2 e2) bs bs2))) := by
  refine enter (args := [.agg #[I d, U64 s, U16 t, U16 e, .slice a n cap], .agg #[I d2, U64 s2, U16 t2, U16 e2, .slice a2 n2 cap2]]) Tryz.func20 rfl rfl ?_
  refine startw fun w hS => ?_
  refine rg ?_
  refine bxa hS rfl rfl rfl ?_
  intro b2 w hb2 hS
  refine bxa hS rfl rfl rfl ?_
  intro b3 w hb3 hS
  refine asg rfl rfl rfl ?_
  refine wq_then ?_
  refine rg ?_
  refine asg rfl rfl rfl ?_
  refine wq_then ?_
  refine rd mo 14 (fun w => St w0 [] [(b3, .cells (#[I (d2), U64 (s2), U16 (t2), U16 (e2), .slice a2 n2 cap2]) 27), (b2, .cells (#[I (d), U64 (s), U16 (t), U16 (e), .slice a n cap]) 27)] w) ?_
  have hS := hS.drew
  refine dq 0 rfl (by kernel_rfl) (by kernel_rfl) (by kernel_rfl) rfl rfl (fun w hS => mv rfl rfl rfl ⟨rfl, rfl⟩) hS ?_
  refine dq 1 rfl (by kernel_rfl) (by kernel_rfl) (by kernel_rfl) rfl rfl (fun w hS => la 1 ag27 hS rfl rfl rfl rfl rfl ⟨rfl, rfl⟩) hS ?_
  refine dq 3 rfl (by kernel_rfl) (by kernel_rfl) (by kernel_rfl) rfl rfl (fun w hS => mv rfl rfl rfl ⟨rfl, rfl⟩) hS ?_
  refine dq 4 rfl (by kernel_rfl) (by kernel_rfl) (by kernel_rfl) rfl rfl (fun w hS => la 0 ag27 hS rfl rfl rfl rfl rfl ⟨rfl, rfl⟩) hS ?_
  refine dl 2 rfl (by kernel_rfl) ?_
  refine cv cf44 hS rfl rfl rfl rfl rfl (sp_packet_Same_1 (d) (s) (t) (e) (a) (n) (cap) _) ?_
  intro w hS
  refine ⟨fun _ => hS, ?_⟩
  refine dl 5 rfl (by kernel_rfl) ?_
  refine cv cf44 hS rfl rfl rfl rfl rfl (sp_packet_Same_1 (d2) (s2) (t2) (e2) (a2) (n2) (cap2) _) ?_
  intro w hS
  refine ⟨fun _ => hS, ?_⟩
  refine dq 6 rfl (by kernel_rfl) (by kernel_rfl) (by kernel_rfl) rfl rfl (fun w hS => eqdv Tryz.underlying94 Tryz.underlying23 sz23 eg94 rfl rfl rfl rfl ⟨rfl, rfl⟩) hS ?_
  refine dq 7 rfl (by kernel_rfl) (by kernel_rfl) (by kernel_rfl) rfl rfl (fun w hS => mv rfl rfl rfl ⟨rfl, rfl⟩) hS ?_
  refine spd 13 rfl (fun hb1 => ?_) (fun hb1 => ?_)
  · skip
    try simp only [SB] at hb1
    refine dq 8 rfl (by kernel_rfl) (by kernel_rfl) (by kernel_rfl) rfl rfl (fun w hS => fan (4) (4) Tryz.underlying27 rfl sz25 (by decide) rfl rfl rfl rfl (by omega) ⟨rfl, rfl⟩) hS ?_
    refine dq 9 rfl (by kernel_rfl) (by kernel_rfl) (by kernel_rfl) rfl rfl (fun w hS => lo 1 sc25 hS rfl rfl rfl rfl rfl ⟨rfl, rfl⟩) hS ?_
    refine dq 10 rfl (by kernel_rfl) (by kernel_rfl) (by kernel_rfl) rfl rfl (fun w hS => fan (4) (4) Tryz.underlying27 rfl sz25 (by decide) rfl rfl rfl rfl (by omega) ⟨rfl, rfl⟩) hS ?_
    refine dq 11 rfl (by kernel_rfl) (by kernel_rfl) (by kernel_rfl) rfl rfl (fun w hS => lo 0 sc25 hS rfl rfl rfl rfl rfl ⟨rfl, rfl⟩) hS ?_
    refine dl 12 rfl (by kernel_rfl) ?_
    refine cv cf45 hS rfl rfl rfl rfl rfl (sp_slices_Equal_byte_byte (a) (n) (cap) (bs) (a2) (n2) (cap2) (bs2) _ (by first | rfl | omega | (simp; omega) | (simp; done)) (by omega) (he.st hS) (by first | rfl | omega | (simp; omega) | (simp; done)) (by omega) (he2.st hS)) ?_
    intro w hS
    refine ⟨fun _ => hS, ?_⟩
    refine dq 13 rfl (by kernel_rfl) (by kernel_rfl) (by kernel_rfl) rfl rfl (fun w hS => pk_t rfl rfl rfl rfl ⟨rfl, rfl⟩) hS ?_
    refine dl 14 rfl (by kernel_rfl) ?_
    refine asg rfl rfl rfl ?_
    refine ⟨fun h => (by cases h), ?_⟩
    refine de (by kernel_rfl) ?_
    refine wq_then ?_
    refine wc_ret ?_
    refine fin1 (v := .bool (decide (bs = bs2))) rfl rfl ?_
    refine ⟨?_, hS.drop⟩
    rw [sameV_t (by simpa using hb1)]
  · skip
    try simp only [SB] at hb1
    refine dq 8 rfl (by kernel_rfl) (by kernel_rfl) (by kernel_rfl) rfl rfl (fun w hS => no rfl rfl ⟨rfl, rfl⟩) hS ?_
    refine dq 9 rfl (by kernel_rfl) (by kernel_rfl) (by kernel_rfl) rfl rfl (fun w hS => no rfl rfl ⟨rfl, rfl⟩) hS ?_
    refine dq 10 rfl (by kernel_rfl) (by kernel_rfl) (by kernel_rfl) rfl rfl (fun w hS => no rfl rfl ⟨rfl, rfl⟩) hS ?_
    refine dq 11 rfl (by kernel_rfl) (by kernel_rfl) (by kernel_rfl) rfl rfl (fun w hS => no rfl rfl ⟨rfl, rfl⟩) hS ?_
    refine dl 12 rfl (by kernel_rfl) ?_
    refine no rfl rfl ?_
    refine ⟨fun _ => hS, ?_⟩
    refine dq 13 rfl (by kernel_rfl) (by kernel_rfl) (by kernel_rfl) rfl rfl (fun w hS => pk_f rfl rfl rfl rfl ⟨rfl, rfl⟩) hS ?_
    refine dl 14 rfl (by kernel_rfl) ?_
    refine asg rfl rfl rfl ?_
    refine ⟨fun h => (by cases h), ?_⟩
    refine de (by kernel_rfl) ?_
    refine wq_then ?_
    refine wc_ret ?_
    refine fin1 (v := .bool (false)) rfl rfl ?_
    refine ⟨?_, hS.drop⟩
    rw [sameV_f (by simpa using hb1)]
end Go.Proofs.XZ

/- walks -/
namespace Go.Proofs.XZ
open Go Go.X Go.Proofs
set_option maxRecDepth 100000 in
theorem sp_mooringref01_Same (a : Option Addr) (n cap : Nat) (bs : List UInt8) (a2 : Option Addr) (n2 cap2 : Nat) (bs2 : List UInt8) (w0 : World) (hn : bs.length = n) (hN : n ≤ 1000000) (hc : Cel w0 a (c8 bs)) (hn2 : bs2.length = n2) (hN2 : n2 ≤ 1000000) (he2 : Cel w0 a2 (c8 bs2)) : Calls Tryz.prog 13 #[.slice a n cap, .slice a2 n2 cap2] w0 (Ret w0 (.bool (decide (bs = bs2)))) := by
  refine enter (args := [.slice a n cap, .slice a2 n2 cap2]) Tryz.func13 rfl rfl ?_
  refine startw fun w hS => ?_
  refine rg ?_
  refine asg rfl rfl rfl ?_
  refine wq_then ?_
  refine wc_seq ?_
  refine rg ?_
  refine mv rfl rfl rfl ?_
  refine lens Tryz.underlying25 rfl rfl rfl ?_
  refine mv rfl rfl rfl ?_
  refine lens Tryz.underlying25 rfl rfl rfl ?_
  refine nei rfl rfl rfl rfl ?_
  refine wq_then ?_
  refine wc_if rfl (fun hc1 => ?_) (fun hc1 => ?_)
  · skip
    try simp only [SB] at hc1
    refine rg ?_
    refine asg rfl rfl rfl ?_
    refine wq_then ?_
    refine wc_ret ?_
    refine q_then_ret ?_
    refine fin1 (v := .bool (false)) rfl rfl ?_
    refine ⟨?_, hS.drop⟩
    rw [decide_eq_false (fun e => by rw [e] at hn; omega)]
  · skip
    try simp only [SB] at hc1
    refine wc_skip ?_
    refine wq_then ?_
    refine wc_seq ?_
    refine rg ?_
    refine asg rfl rfl rfl ?_
    refine wq_then ?_
    refine wc_block ?_
    refine wc_loop (σ := Nat) (fun k => [(0, .slice a n cap), (1, .slice a2 n2 cap2), (5, I ((k : Int)))])
      (fun k w => (k ≤ n ∧ bs.take k = bs2.take k) ∧ St w0 [] [] w) (fun k => n - k) 0 ⟨rfl, rfl, rfl, trivial⟩ ⟨⟨by omega, rfl⟩, hS⟩ ?_
    rintro k w ⟨⟨hk, hk2⟩, hS⟩
    refine wc_seq ?_
    refine rg ?_
    refine mv rfl rfl rfl ?_
    refine mv rfl rfl rfl ?_
    refine lens Tryz.underlying25 rfl rfl rfl ?_
    refine lss rfl rfl rfl rfl ?_
    refine wq_then ?_
    refine wc_if rfl (fun hc2 => ?_) (fun hc2 => ?_)
    · skip
      try simp only [SB] at hc2
      refine wc_skip ?_
      refine wq_then ?_
      refine wc_seq ?_
      refine wc_block ?_
      refine rd mo 9 (fun w => St w0 [] [] w) ?_
      have hS := hS.drew
      refine dq 0 rfl (by kernel_rfl) (by kernel_rfl) (by kernel_rfl) rfl rfl (fun w hS => mv rfl rfl rfl ⟨rfl, rfl⟩) hS ?_
      refine dq 1 rfl (by kernel_rfl) (by kernel_rfl) (by kernel_rfl) rfl rfl (fun w hS => mv rfl rfl rfl ⟨rfl, rfl⟩) hS ?_
      refine dq 2 rfl (by kernel_rfl) (by kernel_rfl) (by kernel_rfl) rfl rfl (fun w hS => slx (k) Tryz.underlying25 sz5 rfl rfl rfl rfl (by omega) (by omega) ((hc.st hS).some8 (j := k) (by first | omega | (simp; done) | (simp; omega))) ⟨rfl, rfl⟩) hS ?_
      refine dq 3 rfl (by kernel_rfl) (by kernel_rfl) (by kernel_rfl) rfl rfl (fun w hS => ldx sc5 rfl rfl rfl (hc.st hS) (by first | omega | (simp; done) | (simp; omega)) ⟨rfl, rfl⟩) hS ?_
      refine dq 4 rfl (by kernel_rfl) (by kernel_rfl) (by kernel_rfl) rfl rfl (fun w hS => mv rfl rfl rfl ⟨rfl, rfl⟩) hS ?_
      refine dq 5 rfl (by kernel_rfl) (by kernel_rfl) (by kernel_rfl) rfl rfl (fun w hS => mv rfl rfl rfl ⟨rfl, rfl⟩) hS ?_
      refine dq 6 rfl (by kernel_rfl) (by kernel_rfl) (by kernel_rfl) rfl rfl (fun w hS => slx (k) Tryz.underlying25 sz5 rfl rfl rfl rfl (by omega) (by omega) ((he2.st hS).some8 (j := k) (by first | omega | (simp; done) | (simp; omega))) ⟨rfl, rfl⟩) hS ?_
      refine dq 7 rfl (by kernel_rfl) (by kernel_rfl) (by kernel_rfl) rfl rfl (fun w hS => ldx sc5 rfl rfl rfl (he2.st hS) (by first | omega | (simp; done) | (simp; omega)) ⟨rfl, rfl⟩) hS ?_
      refine dq 8 rfl (by kernel_rfl) (by kernel_rfl) (by kernel_rfl) rfl rfl (fun w hS => nei rfl rfl rfl rfl ⟨rfl, rfl⟩) hS ?_
      refine de (by kernel_rfl) ?_
      refine wq_then ?_
      refine wc_if rfl (fun hc3 => ?_) (fun hc3 => ?_)
      · skip
        try simp only [SB] at hc3
        refine rg ?_
        refine asg rfl rfl rfl ?_
        refine wq_then ?_
        refine wc_ret ?_
        refine q_block_ret ?_
        refine q_then_ret ?_
        refine q_then_ret ?_
        refine q_block_ret ?_
        refine q_then_ret ?_
        refine fin1 (v := .bool (false)) rfl rfl ?_
        refine ⟨?_, hS.drop⟩
        rw [decide_eq_false (take_ne (k := k) (fun e => by rw [e] at hc3; exact hc3 rfl))]
      · skip
        try simp only [SB] at hc3
        have hge : gl bs k = gl bs2 k := UInt8.toNat_inj.1 (by omega)
        refine wc_skip ?_
        refine q_block_norm ?_
        refine wq_then ?_
        refine wc_region ?_
        refine mv rfl rfl rfl ?_
        refine addi (by omega) (by omega) rfl rfl rfl rfl ?_
        refine asg rfl rfl rfl ?_
        refine again_q (k + 1) ⟨rfl, rfl, lkI rfl (by first | omega | rfl), trivial⟩ ⟨⟨by omega, take_step (by omega) (by omega) hk2 hge⟩, hS⟩ (by omega)
    · skip
      try simp only [SB] at hc2
      refine wc_exit ?_
      refine q_then_exit ?_
      refine q_then_exit ?_
      refine q_block_hit ?_
      refine wq_then ?_
      refine rg ?_
      refine asg rfl rfl rfl ?_
      refine wq_then ?_
      refine wc_ret ?_
      refine fin1 (v := .bool (true)) rfl rfl ?_
      refine ⟨?_, hS.drop⟩
      have hk4 : k = bs.length := by omega
      have hk5 : k = bs2.length := by omega
      rw [decide_eq_true (by have h := hk2; rw [List.take_of_length_le (by omega), List.take_of_length_le (by omega)] at h; exact h)]
end Go.Proofs.XZ

/- walks -/
namespace Go.Proofs.XZ
open Go Go.X Go.Proofs
set_option maxRecDepth 100000 in
theorem sp_mooringref17_Same (d : Int) (s : UInt64) (t e : UInt16) (a : Option Addr) (n cap : Nat) (bs : List UInt8) (d2 : Int) (s2 : UInt64) (t2 e2 : UInt16) (a2 : Option Addr) (n2 cap2 : Nat) (bs2 : List UInt8) (w0 : World) (hn : bs.length = n) (hN : n ≤ 1000000) (he : Cel w0 a (c8 bs)) (hn2 : bs2.length = n2) (hN2 : n2 ≤ 1000000) (he2 : Cel w0 a2 (c8 bs2)) : Calls Tryz.prog 16 #[.agg #[I d, U64 s, U16 t, U16 e, .slice a n cap], .agg #[I d2, U64 s2, U16 t2, U16 e2, .slice a2 n2 cap2]] w0 (Ret w0 (.bool (sameR d d2 s s2 t t2 e e2 bs bs2))) := by
  refine enter (args := [.agg #[I d, U64 s, U16 t, U16 e, .slice a n cap], .agg #[I d2, U64 s2, U16 t2, U16 e2, .slice a2 n2 cap2]]) Tryz.func16 rfl rfl ?_
  refine startw fun w hS => ?_
  refine rg ?_
  refine bxa hS rfl rfl rfl ?_
  intro b2 w hb2 hS
  refine bxa hS rfl rfl rfl ?_
  intro b3 w hb3 hS
  refine asg rfl rfl rfl ?_
  refine wq_then ?_
  refine rg ?_
  refine fan (0) (0) Tryz.underlying27 rfl sz3 (by decide) rfl rfl rfl rfl (by omega) ?_
  refine lo 1 sc3 hS rfl rfl rfl rfl rfl ?_
  refine fan (0) (0) Tryz.underlying27 rfl sz3 (by decide) rfl rfl rfl rfl (by omega) ?_
  refine lo 0 sc3 hS rfl rfl rfl rfl rfl ?_
  refine eqi rfl rfl rfl rfl ?_
  refine mv rfl rfl rfl ?_
  refine spl 10 rfl (fun hb1 => ?_) (fun hb1 => ?_)
  · skip
    try simp only [SB] at hb1
    refine fan (1) (1) Tryz.underlying27 rfl sz23 (by decide) rfl rfl rfl rfl (by omega) ?_
    refine lo 1 sc23 hS rfl rfl rfl rfl rfl ?_
    refine fan (1) (1) Tryz.underlying27 rfl sz23 (by decide) rfl rfl rfl rfl (by omega) ?_
    refine lo 0 sc23 hS rfl rfl rfl rfl rfl ?_
    refine eqi rfl rfl rfl rfl ?_
    refine pk_t rfl rfl rfl rfl ?_
    refine mv rfl rfl rfl ?_
    refine spl 17 rfl (fun hb2 => ?_) (fun hb2 => ?_)
    · skip
      try simp only [SB] at hb2
      refine fan (2) (2) Tryz.underlying27 rfl sz24 (by decide) rfl rfl rfl rfl (by omega) ?_
      refine lo 1 sc24 hS rfl rfl rfl rfl rfl ?_
      refine fan (2) (2) Tryz.underlying27 rfl sz24 (by decide) rfl rfl rfl rfl (by omega) ?_
      refine lo 0 sc24 hS rfl rfl rfl rfl rfl ?_
      refine eqi rfl rfl rfl rfl ?_
      refine pk_t rfl rfl rfl rfl ?_
      refine mv rfl rfl rfl ?_
      refine spl 24 rfl (fun hb3 => ?_) (fun hb3 => ?_)
      · skip
        try simp only [SB] at hb3
        refine fan (3) (3) Tryz.underlying27 rfl sz24 (by decide) rfl rfl rfl rfl (by omega) ?_
        refine lo 1 sc24 hS rfl rfl rfl rfl rfl ?_
        refine fan (3) (3) Tryz.underlying27 rfl sz24 (by decide) rfl rfl rfl rfl (by omega) ?_
        refine lo 0 sc24 hS rfl rfl rfl rfl rfl ?_
        refine eqi rfl rfl rfl rfl ?_
        refine pk_t rfl rfl rfl rfl ?_
        refine mv rfl rfl rfl ?_
        refine spl 31 rfl (fun hb4 => ?_) (fun hb4 => ?_)
        · skip
          try simp only [SB] at hb4
          refine fan (4) (4) Tryz.underlying27 rfl sz25 (by decide) rfl rfl rfl rfl (by omega) ?_
          refine lo 1 sc25 hS rfl rfl rfl rfl rfl ?_
          refine fan (4) (4) Tryz.underlying27 rfl sz25 (by decide) rfl rfl rfl rfl (by omega) ?_
          refine lo 0 sc25 hS rfl rfl rfl rfl rfl ?_
          refine cv cf13 hS rfl rfl rfl rfl rfl (sp_mooringref01_Same (a) (n) (cap) (bs) (a2) (n2) (cap2) (bs2) _ (by first | rfl | omega | (simp; omega) | (simp; done)) (by omega) (he.st hS) (by first | rfl | omega | (simp; omega) | (simp; done)) (by omega) (he2.st hS)) ?_
          intro w hS
          refine pk_t rfl rfl rfl rfl ?_
          refine asg rfl rfl rfl ?_
          refine wq_then ?_
          refine wc_ret ?_
          refine fin1 (v := .bool (decide (bs = bs2))) rfl rfl ?_
          refine ⟨?_, hS.drop⟩
          have hk : sameR d d2 s s2 t t2 e e2 bs bs2 = decide (bs = bs2) := by simp only [sameR]; (repeat' split) <;> first | rfl | omega
          rw [hk]
        · skip
          try simp only [SB] at hb4
          refine no rfl rfl ?_
          refine no rfl rfl ?_
          refine no rfl rfl ?_
          refine no rfl rfl ?_
          refine no rfl rfl ?_
          refine pk_f rfl rfl rfl rfl ?_
          refine asg rfl rfl rfl ?_
          refine wq_then ?_
          refine wc_ret ?_
          refine fin1 (v := .bool (false)) rfl rfl ?_
          refine ⟨?_, hS.drop⟩
          have hk : sameR d d2 s s2 t t2 e e2 bs bs2 = false := by simp only [sameR]; (repeat' split) <;> first | rfl | omega
          rw [hk]
      · skip
        try simp only [SB] at hb3
        refine no rfl rfl ?_
        refine no rfl rfl ?_
        refine no rfl rfl ?_
        refine no rfl rfl ?_
        refine no rfl rfl ?_
        refine pk_f rfl rfl rfl rfl ?_
        refine mv rfl rfl rfl ?_
        refine no rfl rfl ?_
        refine no rfl rfl ?_
        refine no rfl rfl ?_
        refine no rfl rfl ?_
        refine no rfl rfl ?_
        refine pk_f rfl rfl rfl rfl ?_
        refine asg rfl rfl rfl ?_
        refine wq_then ?_
        refine wc_ret ?_
        refine fin1 (v := .bool (false)) rfl rfl ?_
        refine ⟨?_, hS.drop⟩
        have hk : sameR d d2 s s2 t t2 e e2 bs bs2 = false := by simp only [sameR]; (repeat' split) <;> first | rfl | omega
        rw [hk]
    · skip
      try simp only [SB] at hb2
      refine no rfl rfl ?_
      refine no rfl rfl ?_
      refine no rfl rfl ?_
      refine no rfl rfl ?_
      refine no rfl rfl ?_
      refine pk_f rfl rfl rfl rfl ?_
      refine mv rfl rfl rfl ?_
      refine no rfl rfl ?_
      refine no rfl rfl ?_
      refine no rfl rfl ?_
      refine no rfl rfl ?_
      refine no rfl rfl ?_
      refine pk_f rfl rfl rfl rfl ?_
      refine mv rfl rfl rfl ?_
      refine no rfl rfl ?_
      refine no rfl rfl ?_
      refine no rfl rfl ?_
      refine no rfl rfl ?_
      refine no rfl rfl ?_
      refine pk_f rfl rfl rfl rfl ?_
      refine asg rfl rfl rfl ?_
      refine wq_then ?_
      refine wc_ret ?_
      refine fin1 (v := .bool (false)) rfl rfl ?_
      refine ⟨?_, hS.drop⟩
      have hk : sameR d d2 s s2 t t2 e e2 bs bs2 = false := by simp only [sameR]; (repeat' split) <;> first | rfl | omega
      rw [hk]
  · skip
    try simp only [SB] at hb1
    refine no rfl rfl ?_
    refine no rfl rfl ?_
    refine no rfl rfl ?_
    refine no rfl rfl ?_
    refine no rfl rfl ?_
    refine pk_f rfl rfl rfl rfl ?_
    refine mv rfl rfl rfl ?_
    refine no rfl rfl ?_
    refine no rfl rfl ?_
    refine no rfl rfl ?_
    refine no rfl rfl ?_
    refine no rfl rfl ?_
    refine pk_f rfl rfl rfl rfl ?_
    refine mv rfl rfl rfl ?_
    refine no rfl rfl ?_
    refine no rfl rfl ?_
    refine no rfl rfl ?_
    refine no rfl rfl ?_
    refine no rfl rfl ?_
    refine pk_f rfl rfl rfl rfl ?_
    refine mv rfl rfl rfl ?_
    refine no rfl rfl ?_
    refine no rfl rfl ?_
    refine no rfl rfl ?_
    refine no rfl rfl ?_
    refine no rfl rfl ?_
    refine pk_f rfl rfl rfl rfl ?_
    refine asg rfl rfl rfl ?_
    refine wq_then ?_
    refine wc_ret ?_
    refine fin1 (v := .bool (false)) rfl rfl ?_
    refine ⟨?_, hS.drop⟩
    have hk : sameR d d2 s s2 t t2 e e2 bs bs2 = false := by simp only [sameR]; (repeat' split) <;> first | rfl | omega
    rw [hk]
end Go.Proofs.XZ

/- walks -/
namespace Go.Proofs.XZ
open Go Go.X Go.Proofs
set_option maxRecDepth 100000 in
theorem sp_bits_Number (a : Option Addr) (n cap : Nat) (bs : List UInt8) (w0 : World) (hn : bs.length = n) (hN : n ≤ 1000000) (hc : Cel w0 a (c8 bs)) (hcap : n ≤ cap) : Calls Tryz.prog 36 #[.slice a n cap] w0 (Ret w0 (U64 (number bs))) := by
  refine enter (args := [.slice a n cap]) Tryz.func36 rfl rfl ?_
  refine startw fun w hS => ?_
  refine rg ?_
  refine asg rfl rfl rfl ?_
  refine wq_then ?_
  refine rg ?_
  refine asg rfl rfl rfl ?_
  refine wq_then ?_
  refine wc_seq ?_
  refine rg ?_
  refine mv rfl rfl rfl ?_
  refine mv rfl rfl rfl ?_
  refine lens Tryz.underlying25 rfl rfl rfl ?_
  refine subi (by omega) (by omega) rfl rfl rfl rfl ?_
  refine maxin (n - 8) (by omega) rfl rfl rfl rfl ?_
  refine s_l (n - 8) Tryz.underlying25 sz5 rfl rfl rfl rfl (by omega) (by omega) ?_
  refine lens Tryz.underlying25 rfl rfl rfl ?_
  refine mv rfl rfl rfl ?_
  refine wq_then ?_
  refine wc_block ?_
  refine wc_loop (σ := Nat) (fun k => [(2, U64 (0)), (3, U64 (num ((bs.drop (n - 8)).take k))), (11, .slice (sla a (n - 8) cap) (n - (n - 8)) (cap - (n - 8))), (12, I (((n - (n - 8) : Nat) : Int))), (13, I ((k : Int)))])
    (fun k w => (k ≤ n - (n - 8)) ∧ St w0 [] [] w) (fun k => n - (n - 8) - k) 0 ⟨rfl, rfl, rfl, rfl, rfl, trivial⟩ ⟨by omega, hS⟩ ?_
  rintro k w ⟨hk, hS⟩
  refine rg ?_
  refine lss rfl rfl rfl rfl ?_
  refine wq_then ?_
  refine wc_seq ?_
  refine wc_if rfl (fun hc1 => ?_) (fun hc1 => ?_)
  · skip
    try simp only [SB] at hc1
    refine wc_skip ?_
    refine wq_then ?_
    refine wc_seq ?_
    refine wc_block ?_
    refine rg ?_
    refine slx (k) Tryz.underlying25 sz5 rfl rfl rfl rfl (by omega) (by omega) (((hc.st hS).drop8 (lo := n - 8) (cap := cap) (by first | omega | (simp; omega) | simp)).some8 (j := k) (by first | omega | (simp; done) | (simp; omega))) ?_
    refine ldx sc5 rfl rfl rfl ((hc.st hS).drop8 (lo := n - 8) (cap := cap) (by first | omega | (simp; omega) | simp)) (by first | omega | (simp; done) | (simp; omega)) ?_
    refine asg rfl rfl rfl ?_
    refine wq_then ?_
    refine wc_region ?_
    refine mv rfl rfl rfl ?_
    refine shln64 (8) (by omega) rfl rfl rfl rfl ?_
    refine mv rfl rfl rfl ?_
    refine cvu64 Tryz.underlying23 ⟨_, Tryz.underlying5⟩ rfl rfl rfl ?_
    refine or64 rfl rfl rfl rfl ?_
    refine asg rfl rfl rfl ?_
    refine q_block_norm ?_
    refine wq_then ?_
    refine wc_region ?_
    refine addi (by omega) (by omega) rfl rfl rfl rfl ?_
    refine mv rfl rfl rfl ?_
    refine again_q (k + 1) ⟨rfl, lkU64 rfl (num_take _ _ (by rw [List.length_drop]; omega)), rfl, rfl, lkI rfl (by first | omega | rfl), trivial⟩ ⟨by omega, hS⟩ (by omega)
  · skip
    try simp only [SB] at hc1
    have hk4 : k = (bs.drop (n - 8)).length := by rw [List.length_drop]; omega
    refine wc_exit ?_
    refine q_then_exit ?_
    refine q_then_exit ?_
    refine q_block_hit ?_
    refine wq_then ?_
    refine rg ?_
    refine mv rfl rfl rfl ?_
    refine asg rfl rfl rfl ?_
    refine wq_then ?_
    refine wc_ret ?_
    refine fin1 (v := U64 (num ((bs.drop (n - 8)).take k))) rfl rfl ?_
    refine ⟨?_, hS.drop⟩
    rw [hk4, List.take_length, ← hn]; rfl
end Go.Proofs.XZ

/- walks -/
namespace Go.Proofs.XZ
open Go Go.X Go.Proofs
set_option maxRecDepth 100000 in
theorem sp_nonce_ParseHead (a : Option Addr) (n cap : Nat) (bs : List UInt8) (w0 : World) (hn : bs.length = n) (hN : n ≤ 1000000) (hc : Cel w0 a (c8 bs)) (hcap : n ≤ cap) (h8 : 8 ≤ n) : Calls Tryz.prog 35 #[.slice a n cap] w0 (Ret w0 (.tuple #[I ((headD bs : Nat) : Int), U64 (headS bs), .bool true])) := by
  refine enter (args := [.slice a n cap]) Tryz.func35 rfl rfl ?_
  refine startw fun w hS => ?_
  have h63 := shr63_lt (number (bs.take 8))
  refine rg ?_
  refine asg rfl rfl rfl ?_
  refine asg rfl rfl rfl ?_
  refine asg rfl rfl rfl ?_
  refine wq_then ?_
  refine wc_seq ?_
  refine rg ?_
  refine mv rfl rfl rfl ?_
  refine lens Tryz.underlying25 rfl rfl rfl ?_
  refine lss rfl rfl rfl rfl ?_
  refine wq_then ?_
  refine wc_if rfl (fun hc1 => ?_) (fun hc1 => ?_)
  · skip
    try simp only [SB] at hc1
    exfalso; omega
  · skip
    try simp only [SB] at hc1
    refine wc_skip ?_
    refine wq_then ?_
    refine rg ?_
    refine mv rfl rfl rfl ?_
    refine s_h (8) Tryz.underlying25 ⟨_, sz5⟩ rfl rfl rfl rfl (by omega) (by omega) ?_
    refine cv cf36 hS rfl rfl rfl rfl rfl (sp_bits_Number (a) (8) (cap) (((bs).take 8)) _ (by first | rfl | omega | (simp; omega) | (simp; done)) (by omega) ((hc.st hS).take8 8) (by omega)) ?_
    intro w hS
    refine asg rfl rfl rfl ?_
    refine wq_then ?_
    refine rg ?_
    refine mv rfl rfl rfl ?_
    refine shrn64 (63) (by omega) rfl rfl rfl rfl ?_
    refine cvi Tryz.underlying3 ⟨_, Tryz.underlying23⟩ (by omega) (by omega) rfl rfl rfl ?_
    refine mv rfl rfl rfl ?_
    refine and64 (q := (9223372036854775807 : UInt64)) rfl rfl rfl rfl ?_
    refine asg rfl rfl rfl ?_
    refine asg rfl rfl rfl ?_
    refine asg rfl rfl rfl ?_
    refine wq_then ?_
    refine wc_ret ?_
    refine fin3 (v := I (((shr64 (number ((bs).take 8)) 63).toNat : Int))) (u := U64 ((number ((bs).take 8)) &&& 9223372036854775807)) (x := .bool (true)) rfl rfl rfl rfl ?_
    exact ⟨rfl, hS.drop⟩
end Go.Proofs.XZ

/- walks -/
namespace Go.Proofs.XZ
open Go Go.X Go.Proofs
set_option maxRecDepth 100000 in
theorem sp_packet_length (n : Nat) (n_ : Int) (w0 : World) (hn_ : n_ = (n : Int)) : Calls Tryz.prog 33 #[I n_] w0 (Ret w0 (errV 40 (lng n))) := by
  subst hn_
  refine enter (args := [I (n : Int)]) Tryz.func33 rfl rfl ?_
  refine startw fun w hS => ?_
  refine rg ?_
  refine asg rfl rfl rfl ?_
  refine wq_then ?_
  refine wc_seq ?_
  refine wc_block ?_
  refine rg ?_
  refine mv rfl rfl rfl ?_
  refine lss rfl rfl rfl rfl ?_
  refine asg rfl rfl rfl ?_
  refine wq_then ?_
  refine wc_if rfl (fun hc1 => ?_) (fun hc1 => ?_)
  · skip
    try simp only [SB] at hc1
    refine rg ?_
    refine mki cc40 rfl rfl rfl ?_
    refine asg rfl rfl rfl ?_
    refine wq_then ?_
    refine wc_ret ?_
    refine q_block_ret ?_
    refine q_then_ret ?_
    refine fin1 (v := (.iface 40 (I (1)))) rfl rfl ?_
    refine ⟨?_, hS.drop⟩
    have hk : lng n = 1 := by simp only [lng]; (repeat' split) <;> omega
    rw [hk]; rfl
  · skip
    try simp only [SB] at hc1
    refine rg ?_
    refine mv rfl rfl rfl ?_
    refine gtr rfl rfl rfl rfl ?_
    refine asg rfl rfl rfl ?_
    refine wq_then ?_
    refine wc_if rfl (fun hc2 => ?_) (fun hc2 => ?_)
    · skip
      try simp only [SB] at hc2
      refine rg ?_
      refine mki cc40 rfl rfl rfl ?_
      refine asg rfl rfl rfl ?_
      refine wq_then ?_
      refine wc_ret ?_
      refine q_block_ret ?_
      refine q_then_ret ?_
      refine fin1 (v := (.iface 40 (I (2)))) rfl rfl ?_
      refine ⟨?_, hS.drop⟩
      have hk : lng n = 2 := by simp only [lng]; (repeat' split) <;> omega
      rw [hk]; rfl
    · skip
      try simp only [SB] at hc2
      refine wc_skip ?_
      refine q_block_norm ?_
      refine wq_then ?_
      refine rg ?_
      refine asg rfl rfl rfl ?_
      refine wq_then ?_
      refine wc_ret ?_
      refine fin1 (v := .nilIface) rfl rfl ?_
      refine ⟨?_, hS.drop⟩
      have hk : lng n = 0 := by simp only [lng]; (repeat' split) <;> omega
      rw [hk]; rfl
end Go.Proofs.XZ

/- walks -/
namespace Go.Proofs.XZ
open Go Go.X Go.Proofs
set_option maxRecDepth 100000 in
theorem sp_packet_Peek (a : Option Addr) (n cap : Nat) (bs : List UInt8) (w0 : World) (hn : bs.length = n) (hN : n ≤ 1000000) (hc : Cel w0 a (c8 bs)) (hcap : n ≤ cap) : Calls Tryz.prog 18 #[.slice a n cap] w0 (Ret w0 (.tuple #[I ((peekD bs : Nat) : Int), U64 (peekS bs), .bool (decide (lng n = 0))])) := by
  refine enter (args := [.slice a n cap]) Tryz.func18 rfl rfl ?_
  refine startw fun w hS => ?_
  refine rg ?_
  refine asg rfl rfl rfl ?_
  refine asg rfl rfl rfl ?_
  refine asg rfl rfl rfl ?_
  refine wq_then ?_
  refine wc_seq ?_
  refine rg ?_
  refine mv rfl rfl rfl ?_
  refine lens Tryz.underlying25 rfl rfl rfl ?_
  refine cv cf33 hS rfl rfl rfl rfl rfl (sp_packet_length (n) _ _ (by omega)) ?_
  intro w hS
  refine neE (C := 40) (c := (lng n)) Tryz.underlying35 rfl rfl rfl ?_
  refine wq_then ?_
  refine wc_if rfl (fun hc1 => ?_) (fun hc1 => ?_)
  · skip
    try simp only [SB] at hc1
    have hl : lng bs.length ≠ 0 := by rw [hn]; simpa using hc1
    refine rg ?_
    refine asg rfl rfl rfl ?_
    refine asg rfl rfl rfl ?_
    refine asg rfl rfl rfl ?_
    refine wq_then ?_
    refine wc_ret ?_
    refine q_then_ret ?_
    refine fin3 (v := I (0)) (u := U64 (0)) (x := .bool (false)) rfl rfl rfl rfl ?_
    refine ⟨?_, hS.drop⟩
    simp only [peekD, peekS, if_neg hl, ← hn, decide_eq_false hl]; rfl
  · skip
    try simp only [SB] at hc1
    have hl : lng bs.length = 0 := by rw [hn]; simpa using hc1
    have h28 := lng_0 hl
    refine wc_skip ?_
    refine wq_then ?_
    refine rg ?_
    refine mv rfl rfl rfl ?_
    refine cv cf35 hS rfl rfl rfl rfl rfl (sp_nonce_ParseHead (a) (n) (cap) (bs) _ (by first | rfl | omega | (simp; omega) | (simp; done)) (by omega) (hc.st hS) (by omega) (by omega)) ?_
    intro w hS
    refine ext rfl rfl rfl rfl ?_
    refine ext rfl rfl rfl rfl ?_
    refine ext rfl rfl rfl rfl ?_
    refine asg rfl rfl rfl ?_
    refine asg rfl rfl rfl ?_
    refine asg rfl rfl rfl ?_
    refine wq_then ?_
    refine wc_ret ?_
    refine fin3 (v := I ((headD bs : Nat) : Int)) (u := U64 (headS bs)) (x := .bool (true)) rfl rfl rfl rfl ?_
    refine ⟨?_, hS.drop⟩
    simp only [peekD, peekS, if_pos hl, ← hn, decide_eq_true hl]
end Go.Proofs.XZ

/- walks -/
namespace Go.Proofs.XZ
open Go Go.X Go.Proofs
set_option maxRecDepth 100000 in
theorem sp_bits_Bytes (x : UInt64) (n : Nat) (n_ : Int) (w0 : World) (hn_ : n_ = (n : Int)) (hn : n ≤ 8) : Calls Tryz.prog 30 #[U64 x, I n_] w0 (RetS w0 (fun v L => ∃ b, v = .slice (some ⟨b, 0, none⟩) n n ∧ L = [(b, .cells (LB (bytesL x n)) 5)])) := by
  subst hn_
  refine enter (args := [U64 x, I (n : Int)]) Tryz.func30 rfl rfl ?_
  refine startw fun w hS => ?_
  refine rg ?_
  refine asg rfl rfl rfl ?_
  refine wq_then ?_
  refine rg ?_
  refine mv rfl rfl rfl ?_
  refine maxin (n) (by omega) rfl rfl rfl rfl ?_
  refine minin (n) (by omega) rfl rfl rfl rfl ?_
  refine asg rfl rfl rfl ?_
  refine wq_then ?_
  refine rg ?_
  refine mv rfl rfl rfl ?_
  refine mks (n) sl25 hS rfl rfl rfl rfl (by omega) (by omega) (by omega) (by omega) (madeLB _) ?_
  intro b11 w hb11 hS
  refine asg rfl rfl rfl ?_
  refine wq_then ?_
  refine wc_seq ?_
  refine rg ?_
  refine mv rfl rfl rfl ?_
  refine mv rfl rfl rfl ?_
  refine wq_then ?_
  refine wc_block ?_
  refine wc_loop (σ := Nat) (fun k => [(0, U64 (x)), (1, I (((n : Nat) : Int))), (4, (.slice none 0 0)), (5, .slice (some ⟨b11, 0, none⟩) n n), (12, I (((n : Nat) : Int))), (13, I ((k : Int)))])
    (fun k w => (k ≤ n) ∧ St w0 [] [(b11, .cells (LB (flL n (bytf x n) k)) 5)] w) (fun k => n - k) 0 ⟨rfl, rfl, rfl, rfl, rfl, rfl, trivial⟩ ⟨by omega, (by rw [← flL_0]; exact hS)⟩ ?_
  rintro k w ⟨hk, hS⟩
  refine rg ?_
  refine lss rfl rfl rfl rfl ?_
  refine wq_then ?_
  refine wc_seq ?_
  refine wc_if rfl (fun hc1 => ?_) (fun hc1 => ?_)
  · skip
    try simp only [SB] at hc1
    refine wc_skip ?_
    refine wq_then ?_
    refine wc_seq ?_
    refine wc_block ?_
    refine rg ?_
    refine mv rfl rfl rfl ?_
    refine asg rfl rfl rfl ?_
    refine wq_then ?_
    refine wc_region ?_
    refine mv rfl rfl rfl ?_
    refine mv rfl rfl rfl ?_
    refine mv rfl rfl rfl ?_
    refine mv rfl rfl rfl ?_
    refine subi (by omega) (by omega) rfl rfl rfl rfl ?_
    refine mv rfl rfl rfl ?_
    refine subi (by omega) (by omega) rfl rfl rfl rfl ?_
    refine muli (by omega) (by omega) rfl rfl rfl rfl ?_
    refine shrn64 (8 * ((n - 1) - k)) (by omega) rfl rfl rfl rfl ?_
    refine cvu8 Tryz.underlying5 ⟨_, Tryz.underlying23⟩ rfl rfl rfl ?_
    refine isn (k) Tryz.underlying25 sz5 rfl rfl rfl rfl (by omega) (by omega) ?_
    refine st (cs' := LB (flL n (bytf x n) (k + 1))) 0 sz5 hS rfl rfl rfl rfl rfl rfl (by rw [LB_size, flL_len]; omega) (by rw [LB_set]; exact congrArg LB (flL_succ _ _ k)) ?_
    intro w hS
    refine q_block_norm ?_
    refine wq_then ?_
    refine wc_region ?_
    refine addi (by omega) (by omega) rfl rfl rfl rfl ?_
    refine mv rfl rfl rfl ?_
    refine again_q (k + 1) ⟨rfl, rfl, rfl, rfl, rfl, lkI rfl (by first | omega | rfl), trivial⟩ ⟨by omega, hS⟩ (by omega)
  · skip
    try simp only [SB] at hc1
    refine wc_exit ?_
    refine q_then_exit ?_
    refine q_then_exit ?_
    refine q_block_hit ?_
    refine wq_then ?_
    refine rg ?_
    refine mv rfl rfl rfl ?_
    refine asg rfl rfl rfl ?_
    refine wq_then ?_
    refine wc_ret ?_
    refine fin1 (v := .slice (some ⟨b11, 0, none⟩) n n) rfl rfl ?_
    have hk4 : k = n := by omega
    refine ⟨_, _, rfl, ⟨b11, rfl, rfl⟩, ?_⟩
    rw [hk4, flL_n] at hS
    exact hS.sublist (.cons_cons _ (List.nil_sublist _))
end Go.Proofs.XZ

/- walks -/
namespace Go.Proofs.XZ
open Go Go.X Go.Proofs
set_option maxRecDepth 100000 in
theorem sp_nonce_Head (d : Nat) (s : UInt64) (d_ : Int) (w0 : World) (hd_ : d_ = (d : Int)) (hd : d ≤ 1) (hs : s.toNat ≤ 9223372036854775807) : Calls Tryz.prog 28 #[I d_, U64 s] w0 (Ret w0 (.tuple #[.agg (BV (headV d s)), .bool true])) := by
  subst hd_
  refine enter (args := [I (d : Int), U64 s]) Tryz.func28 rfl rfl ?_
  refine startw fun w hS => ?_
  refine rg ?_
  refine ala zr74 hS rfl rfl ?_
  intro b4 w hb4 hS
  refine asg rfl rfl rfl ?_
  refine wq_then ?_
  refine wc_seq ?_
  refine rg ?_
  refine mv rfl rfl rfl ?_
  refine andni (D := 2) 1 (by decide) (by decide) (by decide) (by omega) (by omega) rfl rfl rfl rfl ?_
  refine nei rfl rfl rfl rfl ?_
  refine mv rfl rfl rfl ?_
  refine spl 9 rfl (fun hb1 => ?_) (fun hb1 => ?_)
  · skip
    try simp only [SB] at hb1
    exfalso; omega
  · skip
    try simp only [SB] at hb1
    refine mv rfl rfl rfl ?_
    refine gtr rfl rfl rfl rfl ?_
    refine pk_f rfl rfl rfl rfl ?_
    refine wq_then ?_
    refine wc_if rfl (fun hc1 => ?_) (fun hc1 => ?_)
    · skip
      try simp only [SB] at hc1
      exfalso; omega
    · skip
      try simp only [SB] at hc1
      refine wc_skip ?_
      refine wq_then ?_
      refine rg ?_
      refine mv rfl rfl rfl ?_
      refine cvu64 Tryz.underlying23 ⟨_, Tryz.underlying3⟩ rfl rfl rfl ?_
      refine shln64 (63) (by omega) rfl rfl rfl rfl ?_
      refine mv rfl rfl rfl ?_
      refine or64 rfl rfl rfl rfl ?_
      refine cs cf30 hS rfl rfl rfl rfl rfl (sp_bits_Bytes (((shl64 (toU64 ((d : Int))) 63) ||| s)) (8) _ _ (by omega) (by omega)) ?_
      rintro _ _ w ⟨q19, rfl, rfl⟩ hS
      refine s2b Tryz.underlying74 rfl rfl rfl (by omega) ((Cel.lb (l := bytesL ((shl64 (toU64 ((d : Int))) 63) ||| s) 8) (hS.get 0 rfl)).some8 (j := 0) (by first | omega | (simp; omega) | simp)) ?_
      refine ld rfl rfl rfl (lv_celj 0 ag74 (Cel.lb (l := bytesL ((shl64 (toU64 ((d : Int))) 63) ||| s) 8) (hS.get 0 rfl)) (by first | omega | (simp; done) | (simp; omega)) (by omega)) ?_
      refine sa 1 ag74 hS rfl rfl rfl (BV_one _) rfl (BV_size _) (BV_size _) ?_
      intro w hS
      refine asg rfl rfl rfl ?_
      refine wq_then ?_
      refine wc_ret ?_
      refine fin2 (v := .agg (BV (ofl 8 (bytesL ((shl64 (toU64 ((d : Int))) 63) ||| s) 8)))) (u := .bool (true)) rfl ⟨_, rfl, lv_a ag74 (hS.get 1 rfl) (BV_size _)⟩ rfl ?_
      exact ⟨rfl, hS.drop⟩
end Go.Proofs.XZ

/- walks -/
namespace Go.Proofs.XZ
open Go Go.X Go.Proofs
set_option maxRecDepth 100000 in
theorem sp_nonce_Whole (head : V8 8) (w0 : World) : Calls Tryz.prog 32 #[.agg (BV head)] w0 (Ret w0 (.agg (BV (nonceV head)))) := by
  refine enter (args := [.agg (BV head)]) Tryz.func32 rfl rfl ?_
  refine startw fun w hS => ?_
  refine rg ?_
  refine bxa hS rfl rfl rfl ?_
  intro b1 w hb1 hS
  refine ala zr81 hS rfl rfl ?_
  intro b2 w hb2 hS
  refine wq_then ?_
  refine rg ?_
  refine ala zr107 hS rfl rfl ?_
  intro b3 w hb3 hS
  refine wq_then ?_
  refine rd mo 5 (fun w => St w0 [] [(b1, .cells (BV head) 74)] w) ?_
  have hS := hS.drew
  refine dq 0 rfl (by kernel_rfl) (by kernel_rfl) (by kernel_rfl) rfl rfl (fun w hS => a_hm (4) (4) Tryz.underlying107 ⟨_, sz5⟩ rfl rfl rfl rfl rfl (by omega) (by omega) (by omega) (by omega) (by omega) ⟨rfl, rfl⟩) (hS.sublist (.cons _ (.cons _ (.cons_cons _ (List.nil_sublist _))))) ?_
  refine dq 1 rfl (by kernel_rfl) (by kernel_rfl) (by kernel_rfl) rfl rfl (fun w hS => a_all Tryz.underlying74 ⟨_, sz5⟩ rfl rfl rfl ⟨rfl, rfl⟩) (hS.sublist (.cons _ (.cons _ (.cons_cons _ (List.nil_sublist _))))) ?_
  refine dl 2 rfl (by kernel_rfl) ?_
  refine app (A := [(b2, .cells (BV (Vector.replicate 12 0)) 81), (b1, .cells (BV head) 74)]) (X := [(b3, .cells (BV (Vector.replicate 4 0)) 107)]) (R := []) sl25 (Own.blk (BV_size _) (by decide)) ((hS.napp).toend 0 rfl) rfl rfl rfl rfl (src8 Tryz.underlying25 _ (Cel.bv (hS.get 2 rfl)) Vector.length_toList) (by omega) (by omega) ?_
  intro a6 c6 X6 w hO6 hS
  rw [BV_toList, c8_app] at hO6
  refine ⟨fun _ => (hS.sublist (.cons _ (.cons_cons _ (List.nil_sublist _)))), ?_⟩
  refine dl 3 rfl (by kernel_rfl) ?_
  refine s2b Tryz.underlying81 rfl rfl rfl (by omega) ((hO6.cel hS (fun p hp => by simp [hp])).some8 (j := 0) (by first | omega | (simp; omega) | simp)) ?_
  refine ⟨fun _ => (hS.sublist (.cons _ (.cons_cons _ (List.nil_sublist _)))), ?_⟩
  refine dl 4 rfl (by kernel_rfl) ?_
  refine ld rfl rfl rfl (lv_celj 0 ag81 (hO6.cel hS (fun p hp => by simp [hp])) (by first | omega | (simp; done) | (simp; omega)) (by omega)) ?_
  refine ⟨fun _ => (hS.sublist (.cons _ (.cons_cons _ (List.nil_sublist _)))), ?_⟩
  refine dl 5 rfl (by kernel_rfl) ?_
  refine sa 0 ag81 hS rfl rfl rfl (BV_one _) rfl (BV_size _) (BV_size _) ?_
  intro w hS
  refine ⟨fun h => (by cases h), ?_⟩
  refine de (by kernel_rfl) ?_
  refine wq_then ?_
  refine wc_ret ?_
  refine fin1 (v := .agg (BV (ofl 12 (((Vector.replicate 4 0).toList) ++ head.toList)))) rfl ⟨_, rfl, lv_a ag81 (hS.get 0 rfl) (BV_size _)⟩ ?_
  exact ⟨rfl, hS.drop⟩
end Go.Proofs.XZ

/- walks -/
namespace Go.Proofs.XZ
open Go Go.X Go.Proofs
set_option maxRecDepth 100000 in
theorem sp_block_Xor (a b : V8 16) (w0 : World) : Calls Tryz.prog 81 #[.agg (BV a), .agg (BV b)] w0 (Ret w0 (.agg (BV (xorV a b)))) := by
  refine enter (args := [.agg (BV a), .agg (BV b)]) Tryz.func81 rfl rfl ?_
  refine startw fun w hS => ?_
  refine rg ?_
  refine bxa hS rfl rfl rfl ?_
  intro b2 w hb2 hS
  refine bxa hS rfl rfl rfl ?_
  intro b3 w hb3 hS
  refine ala zr22 hS rfl rfl ?_
  intro b4 w hb4 hS
  refine wq_then ?_
  refine wc_seq ?_
  refine rg ?_
  refine mv rfl rfl rfl ?_
  refine wq_then ?_
  refine wc_block ?_
  refine wc_loop (σ := Nat) (fun k => [(2, Ptr b2 0), (3, Ptr b3 0), (4, Ptr b4 0), (6, I ((k : Int)))])
    (fun k w => (k ≤ 16) ∧ St w0 [] [(b4, .cells (BV (Vector.replicate 16 0)) 22), (b3, .cells (BV b) 22), (b2, .cells (BV (fill8 16 (fun i => gv a i ^^^ gv b i) a k)) 22)] w) (fun k => 16 - k) 0 ⟨rfl, rfl, rfl, rfl, trivial⟩ ⟨by omega, (by simp only [Nat.zero_mul, Nat.add_zero, fill8_0, fill32_0]; exact hS)⟩ ?_
  rintro k w ⟨hk, hS⟩
  refine rg ?_
  refine lss rfl rfl rfl rfl ?_
  refine wq_then ?_
  refine wc_seq ?_
  refine wc_if rfl (fun hc1 => ?_) (fun hc1 => ?_)
  · skip
    try simp only [SB] at hc1
    refine wc_skip ?_
    refine wq_then ?_
    refine wc_seq ?_
    refine wc_block ?_
    refine rg ?_
    refine mv rfl rfl rfl ?_
    refine asg rfl rfl rfl ?_
    refine wq_then ?_
    refine wc_draw mo 7 (fun w => St w0 [] [(b4, .cells (BV (Vector.replicate 16 0)) 22), (b3, .cells (BV b) 22), (b2, .cells (BV (fill8 16 (fun i => gv a i ^^^ gv b i) a k)) 22)] w) ?_
    have hS := hS.drew
    refine dq 0 rfl (by kernel_rfl) (by kernel_rfl) (by kernel_rfl) rfl rfl (fun w hS => mv rfl rfl rfl ⟨rfl, rfl⟩) hS ?_
    refine dq 1 rfl (by kernel_rfl) (by kernel_rfl) (by kernel_rfl) rfl rfl (fun w hS => ian (k) (k) Tryz.underlying22 sz5 rfl rfl rfl rfl (by omega) (by omega) (by omega) ⟨rfl, rfl⟩) hS ?_
    refine dq 2 rfl (by kernel_rfl) (by kernel_rfl) (by kernel_rfl) rfl rfl (fun w hS => lo 2 sc5 hS rfl rfl rfl rfl (BV_get _ k (by omega)) ⟨rfl, rfl⟩) hS ?_
    refine dq 3 rfl (by kernel_rfl) (by kernel_rfl) (by kernel_rfl) rfl rfl (fun w hS => mv rfl rfl rfl ⟨rfl, rfl⟩) hS ?_
    refine dq 4 rfl (by kernel_rfl) (by kernel_rfl) (by kernel_rfl) rfl rfl (fun w hS => ian (k) (k) Tryz.underlying22 sz5 rfl rfl rfl rfl (by omega) (by omega) (by omega) ⟨rfl, rfl⟩) hS ?_
    refine dq 5 rfl (by kernel_rfl) (by kernel_rfl) (by kernel_rfl) rfl rfl (fun w hS => lo 1 sc5 hS rfl rfl rfl rfl (BV_get _ k (by omega)) ⟨rfl, rfl⟩) hS ?_
    refine dq 6 rfl (by kernel_rfl) (by kernel_rfl) (by kernel_rfl) rfl rfl (fun w hS => xor8 rfl rfl rfl rfl ⟨rfl, rfl⟩) hS ?_
    refine dl 7 rfl (by kernel_rfl) ?_
    refine ian (k) (k) Tryz.underlying22 sz5 rfl rfl rfl rfl (by omega) (by omega) (by omega) ?_
    refine ⟨fun h => (by cases h), ?_⟩
    refine dl 8 rfl (by kernel_rfl) ?_
    refine st (cs' := BV (fill8 16 (fun i => gv a i ^^^ gv b i) a (k + 1))) 2 sz5 hS rfl rfl rfl rfl rfl rfl (by rw [BV_size]; omega) (by rw [BV_set, gv_fill_ge _ _ (Nat.le_refl _)]; exact congrArg BV (fill8_succ (fun i => gv a i ^^^ gv b i) a k)) ?_
    intro w hS
    refine ⟨fun h => (by cases h), ?_⟩
    refine de (by kernel_rfl) ?_
    refine q_block_norm ?_
    refine wq_then ?_
    refine wc_region ?_
    refine addi (by omega) (by omega) rfl rfl rfl rfl ?_
    refine mv rfl rfl rfl ?_
    refine again_q (k + 1) ⟨rfl, rfl, rfl, lkI rfl (by first | omega | rfl), trivial⟩ ⟨by omega, hS⟩ (by omega)
  · skip
    try simp only [SB] at hc1
    refine wc_exit ?_
    refine q_then_exit ?_
    refine q_then_exit ?_
    refine q_block_hit ?_
    refine wq_then ?_
    refine rg ?_
    refine la 2 ag22 hS rfl rfl rfl rfl (BV_size _) ?_
    refine sa 0 ag22 hS rfl rfl rfl (BV_one _) rfl (BV_size _) (BV_size _) ?_
    intro w hS
    refine wq_then ?_
    refine wc_ret ?_
    refine fin1 (v := .agg (BV (fill8 16 (fun i => gv a i ^^^ gv b i) a k))) rfl ⟨_, rfl, lv_a ag22 (hS.get 0 rfl) (BV_size _)⟩ ?_
    refine ⟨?_, hS.drop⟩
    have hk4 : k = 16 := by omega
    subst hk4; rw [fill8_n]; rfl
end Go.Proofs.XZ

/- walks -/
namespace Go.Proofs.XZ
open Go Go.X Go.Proofs
set_option maxRecDepth 100000 in
theorem sp_table_Table_Cipher (t c : Nat) (key : V8 16) (w0 : World) (hT : TabAt w0 t c key) : Calls Tryz.prog 82 #[Ptr t 0] w0 (Ret w0 (Ptr c 0)) := by
  refine enter (args := [Ptr t 0]) Tryz.func82 rfl rfl ?_
  refine startw fun w hS => ?_
  obtain ⟨⟨T, hT1⟩, E, hC⟩ := id hT
  refine rg ?_
  refine asg rfl rfl rfl ?_
  refine wq_then ?_
  refine wc_seq ?_
  refine rg ?_
  refine mv rfl rfl rfl ?_
  refine eqpn Tryz.underlying30 rfl rfl rfl rfl ?_
  refine wq_then ?_
  refine wc_if_f rfl ?_
  refine wc_skip ?_
  refine wq_then ?_
  refine rg ?_
  refine mv rfl rfl rfl ?_
  refine nilp rfl rfl rfl ?_
  refine fan (0) (0) Tryz.underlying61 rfl sz32 (by decide) rfl rfl rfl rfl (by omega) ?_
  refine lod hT1 List.not_mem_nil sc32 hS rfl rfl rfl (cat_l (a := 1) rfl (by omega) rfl) ?_
  refine asg rfl rfl rfl ?_
  refine wq_then ?_
  refine wc_ret ?_
  refine fin1 (v := Ptr c 0) rfl rfl ?_
  exact ⟨rfl, hS.drop⟩
end Go.Proofs.XZ

/- walks -/
namespace Go.Proofs.XZ
open Go Go.X Go.Proofs
set_option maxRecDepth 100000 in
theorem sp_table_Table_right (t c : Nat) (key : V8 16) (w0 : World) (hT : TabAt w0 t c key) : Calls Tryz.prog 110 #[Ptr t 0] w0 (Ret w0 (Ptr t 0)) := by
  refine enter (args := [Ptr t 0]) Tryz.func110 rfl rfl ?_
  refine startw fun w hS => ?_
  obtain ⟨⟨T, hT1⟩, E, hC⟩ := id hT
  refine rg ?_
  refine asg rfl rfl rfl ?_
  refine wq_then ?_
  refine wc_seq ?_
  refine rg ?_
  refine mv rfl rfl rfl ?_
  refine eqpn Tryz.underlying30 rfl rfl rfl rfl ?_
  refine wq_then ?_
  refine wc_if_f rfl ?_
  refine wc_skip ?_
  refine wq_then ?_
  refine rg ?_
  refine mv rfl rfl rfl ?_
  refine asg rfl rfl rfl ?_
  refine wq_then ?_
  refine wc_ret ?_
  refine fin1 (v := Ptr t 0) rfl rfl ?_
  exact ⟨rfl, hS.drop⟩
end Go.Proofs.XZ

/- walks -/
namespace Go.Proofs.XZ
open Go Go.X Go.Proofs
set_option maxRecDepth 100000 in
theorem sp_table_Table_Dollar (t c : Nat) (key : V8 16) (w0 : World) (hT : TabAt w0 t c key) : Calls Tryz.prog 85 #[Ptr t 0] w0 (Ret w0 (.agg (BV (lastL key 0)))) := by
  refine enter (args := [Ptr t 0]) Tryz.func85 rfl rfl ?_
  refine startw fun w hS => ?_
  obtain ⟨⟨T, hT1⟩, E, hC⟩ := id hT
  refine rg ?_
  refine ala zr22 hS rfl rfl ?_
  intro b2 w hb2 hS
  refine wq_then ?_
  refine rg ?_
  refine mv rfl rfl rfl ?_
  refine cv cf110 hS rfl rfl rfl rfl rfl (sp_table_Table_right (t) (c) (key) _ (hT.st hS)) ?_
  intro w hS
  refine nilp rfl rfl rfl ?_
  refine fan (17) (17) Tryz.underlying61 rfl sz22 (by decide) rfl rfl rfl rfl (by omega) ?_
  refine lpd (u := .agg (BV (lastL key 0))) hT1 List.not_mem_nil ag22 hS rfl rfl rfl (le_sz (a := 1057) (cat_size (a := 1) (b := 1056) rfl (cat_size (a := 16) (b := 1040) (BV_size _) (cat_size (a := 16) (b := 1024) (BV_size _) (BV_size _)))) (by omega)) (cat_xr (a := 1) (o' := 16) rfl (by omega) (cat_xr (a := 16) (o' := 0) (BV_size _) (by omega) (cat_xl (a := 16) (BV_size _) (by omega) (ext_all (BV_size _))))) rfl ?_
  refine sa 0 ag22 hS rfl rfl rfl (BV_one _) rfl (BV_size _) (BV_size _) ?_
  intro w hS
  refine wq_then ?_
  refine wc_ret ?_
  refine fin1 (v := .agg (BV (lastL key 0))) rfl ⟨_, rfl, lv_a ag22 (hS.get 0 rfl) (BV_size _)⟩ ?_
  exact ⟨rfl, hS.drop⟩
end Go.Proofs.XZ

/- walks -/
namespace Go.Proofs.XZ
open Go Go.X Go.Proofs
set_option maxRecDepth 100000 in
theorem sp_block_All_1 (m lp pb E n cap : Nat) (a : Option Addr) (bs : List UInt8) (J : Nat → World → Prop) (hn : bs.length = n) (hN : n ≤ 1000000) (hcap : n ≤ cap) (hJ : ∀ (k : Nat) (W : World), J k W → W.heap[pb]? = some (.cells #[.slice a n cap] E) ∧ Cel W a (c8 bs)) (hY : ∀ (k : Nat) (W : World), k < n / 16 → J k W → YieldAt (Fe none) m Tryz.prog lp #[I ((k + 1 : Nat) : Int), .agg (BV (blk bs k))] W fun e W' => e = .returned (.bool true) ∧ J (k + 1) W') (w : World) (h0 : J 0 w) : CallsIn (Fe none) (m + 1) Tryz.prog 108 #[.func (.yield lp) #[] #[], Ptr pb 0] w fun e W' => (∃ v, e = .returned v) ∧ J (n / 16) W' := by
  refine enterI (args := [.func (.yield lp) #[] #[], Ptr pb 0]) Tryz.func108 rfl rfl ?_
  refine rgi ?_
  refine wi rfl (asg rfl rfl rfl ?_)
  refine wqi_then ?_
  refine wci_block ?_
  refine wci_loop (σ := Nat) (fun k => [(0, (.func (.yield lp) #[] #[])), (1, Ptr pb 0), (3, I (((k + 1 : Nat) : Int)))])
    (fun k w => k ≤ n / 16 ∧ J k w) (fun k => n / 16 - k) 0 ⟨rfl, rfl, rfl, trivial⟩ ⟨by omega, h0⟩ ?_
  rintro k w ⟨hk, hJk⟩
  obtain ⟨hb, hc⟩ := hJ k w hJk
  refine wci_seq ?_
  refine rgi ?_
  refine wi rfl (mv rfl rfl rfl ?_)
  refine wi rfl (muli (by omega) (by omega) rfl rfl rfl rfl ?_)
  refine wi rfl (ld rfl rfl rfl (lv_c sc25 hb rfl) ?_)
  refine wi rfl (lens Tryz.underlying25 rfl rfl rfl ?_)
  refine wi rfl (leq rfl rfl rfl rfl ?_)
  refine wqi_then ?_
  refine wci_if rfl (fun hc1 => ?_) (fun hc1 => ?_)
  · skip
    try simp only [SB] at hc1
    refine wci_skip ?_
    refine wqi_then ?_
    refine wci_seq ?_
    refine wci_block ?_
    refine rgi ?_
    refine wi rfl (mv rfl rfl rfl ?_)
    refine wi rfl (mv rfl rfl rfl ?_)
    refine wi rfl (ld rfl rfl rfl (lv_c sc25 hb rfl) ?_)
    refine wi rfl (mv rfl rfl rfl ?_)
    refine wi rfl (subi (by omega) (by omega) rfl rfl rfl rfl ?_)
    refine wi rfl (muli (by omega) (by omega) rfl rfl rfl rfl ?_)
    refine wi rfl (mv rfl rfl rfl ?_)
    refine wi rfl (muli (by omega) (by omega) rfl rfl rfl rfl ?_)
    refine wi rfl (s_lh (k * 16) ((k + 1) * 16) Tryz.underlying25 sz5 rfl rfl rfl rfl rfl (by omega) (by omega) (by omega) (by omega) ?_)
    refine wi rfl (s2b Tryz.underlying22 rfl rfl rfl (by omega) ((((hc).take8 ((k + 1) * 16)).drop8 (lo := k * 16) (cap := cap) (by first | omega | (simp; omega) | simp)).some8 (j := 0) (by first | omega | (simp; omega) | simp)) ?_)
    refine wi rfl (ld rfl rfl rfl (lv_celj 0 ag22 (hc.drop8 (lo := k * 16) (cap := cap) (by omega)) (by simp; omega) (by omega)) ?_)
    refine yld rfl rfl rfl rfl (hY k w (by omega) hJk) ?_
    rintro _ w ⟨rfl, hJk⟩
    refine ⟨_, rfl, ?_⟩
    refine wi rfl (notb rfl rfl rfl ?_)
    refine wqi_then ?_
    refine wci_if_f rfl ?_
    refine wci_skip ?_
    refine q_block_norm ?_
    refine wqi_then ?_
    refine wci_region ?_
    refine wi rfl (mv rfl rfl rfl ?_)
    refine wi rfl (addi (by omega) (by omega) rfl rfl rfl rfl ?_)
    refine wi rfl (asg rfl rfl rfl ?_)
    refine again_q (k + 1) ⟨rfl, rfl, lkI rfl (by first | omega | rfl), trivial⟩ ⟨by omega, hJk⟩ (by omega)
  · skip
    try simp only [SB] at hc1
    have hk4 : k = n / 16 := by omega
    refine wci_exit ?_
    refine q_then_exit ?_
    refine q_then_exit ?_
    refine q_block_hit ?_
    refine q_norm_ret ?_
    refine fin0 rfl ?_
    exact ⟨⟨_, rfl⟩, hk4 ▸ hJk⟩
end Go.Proofs.XZ

/- walks -/
namespace Go.Proofs.XZ
open Go Go.X Go.Proofs
set_option maxRecDepth 100000 in
theorem sp_block_All (a : Option Addr) (n cap : Nat) (w0 : World) : Calls Tryz.prog 79 #[.slice a n cap] w0 (RetS w0 (fun v L => ∃ b, v = .func (.func 108) #[] #[Ptr b 0] ∧ L = [(b, .cells #[.slice a n cap] 25)])) := by
  refine enter (args := [.slice a n cap]) Tryz.func79 rfl rfl ?_
  refine startw fun w hS => ?_
  refine rg ?_
  refine bx1 hS rfl rfl rfl rfl ?_
  intro b1 w hb1 hS
  refine asg rfl rfl rfl ?_
  refine wq_then ?_
  refine rg ?_
  refine mkf rfl rfl rfl ?_
  refine asg rfl rfl rfl ?_
  refine wq_then ?_
  refine wc_ret ?_
  refine fin1 (v := .func (.func 108) #[] #[Ptr b1 0]) rfl rfl ?_
  exact ⟨_, _, rfl, ⟨b1, rfl, rfl⟩, hS⟩
end Go.Proofs.XZ

/- walks -/
namespace Go.Proofs.XZ
open Go Go.X Go.Proofs
set_option maxRecDepth 100000 in
theorem sp_table_Table_At (t c : Nat) (key : V8 16) (i : Nat) (i_ : Int) (w0 : World) (hi_ : i_ = (i : Int)) (hT : TabAt w0 t c key) (hi : i < 64) : Calls Tryz.prog 133 #[Ptr t 0, I i_] w0 (Ret w0 (.agg (BV (blkAt key i)))) := by
  subst hi_
  refine enter (args := [Ptr t 0, I (i : Int)]) Tryz.func133 rfl rfl ?_
  refine startw fun w hS => ?_
  obtain ⟨⟨T, hT1⟩, E, hC⟩ := id hT
  refine rg ?_
  refine ala zr22 hS rfl rfl ?_
  intro b4 w hb4 hS
  refine wq_then ?_
  refine wc_seq ?_
  refine rg ?_
  refine mv rfl rfl rfl ?_
  refine lss rfl rfl rfl rfl ?_
  refine mv rfl rfl rfl ?_
  refine spl 7 rfl (fun hb1 => ?_) (fun hb1 => ?_)
  · skip
    try simp only [SB] at hb1
    exfalso; omega
  · skip
    try simp only [SB] at hb1
    refine mv rfl rfl rfl ?_
    refine geq rfl rfl rfl rfl ?_
    refine pk_f rfl rfl rfl rfl ?_
    refine wq_then ?_
    refine wc_if rfl (fun hc1 => ?_) (fun hc1 => ?_)
    · skip
      try simp only [SB] at hc1
      exfalso; omega
    · skip
      try simp only [SB] at hc1
      refine wc_skip ?_
      refine wq_then ?_
      refine rg ?_
      refine mv rfl rfl rfl ?_
      refine cv cf110 hS rfl rfl rfl rfl rfl (sp_table_Table_right (t) (c) (key) _ (hT.st hS)) ?_
      intro w hS
      refine mv rfl rfl rfl ?_
      refine nilp rfl rfl rfl ?_
      refine fan (33) (33) Tryz.underlying61 rfl sz59 (by decide) rfl rfl rfl rfl (by omega) ?_
      refine ian (i) (33 + i * 16) Tryz.underlying59 sz22 rfl rfl rfl rfl (by omega) (by omega) (by omega) ?_
      refine lpd (u := .agg (BV (seg8 16 (blkL key 64) (i * 16)))) hT1 List.not_mem_nil ag22 hS rfl rfl rfl (le_sz (a := 1057) (cat_size (a := 1) (b := 1056) rfl (cat_size (a := 16) (b := 1040) (BV_size _) (cat_size (a := 16) (b := 1024) (BV_size _) (BV_size _)))) (by omega)) (cat_xr (a := 1) (o' := 32 + i * 16) rfl (by omega) (cat_xr (a := 16) (o' := 16 + i * 16) (BV_size _) (by omega) (cat_xr (a := 16) (o' := i * 16) (BV_size _) (by omega) (BV_extract 16 _ (i * 16) (by omega))))) rfl ?_
      refine sa 0 ag22 hS rfl rfl rfl (BV_one _) rfl (BV_size _) (BV_size _) ?_
      intro w hS
      refine wq_then ?_
      refine wc_ret ?_
      refine fin1 (v := .agg (BV (seg8 16 (blkL key 64) (i * 16)))) rfl ⟨_, rfl, lv_a ag22 (hS.get 0 rfl) (BV_size _)⟩ ?_
      exact ⟨rfl, hS.drop⟩
end Go.Proofs.XZ

/- walks -/
namespace Go.Proofs.XZ
open Go Go.X Go.Proofs
set_option maxRecDepth 100000 in
theorem sp_math_bits_TrailingZeros64 (x : UInt64) (w0 : World) (hx : x ≠ 0) (hG : Gl 0 w0) : Calls Tryz.prog 136 #[U64 x] w0 (Ret w0 (I ((ctz x : Nat) : Int))) := by
  refine enter (args := [U64 x]) Tryz.func136 rfl rfl ?_
  refine startw fun w hS => ?_
  have hi := ctzi_lt x
  simp only [ctzi] at hi
  refine rg ?_
  refine asg rfl rfl rfl ?_
  refine wq_then ?_
  refine wc_seq ?_
  refine rg ?_
  refine mv rfl rfl rfl ?_
  refine eqi rfl rfl rfl rfl ?_
  refine wq_then ?_
  refine wc_if rfl (fun hc1 => ?_) (fun hc1 => ?_)
  · skip
    try simp only [SB] at hc1
    exact absurd (UInt64.toNat_inj.1 (by simpa using hc1)) hx
  · skip
    try simp only [SB] at hc1
    refine wc_skip ?_
    refine wq_then ?_
    refine rg ?_
    refine mv rfl rfl rfl ?_
    refine mv rfl rfl rfl ?_
    refine negu64 rfl rfl rfl ?_
    refine and64 rfl rfl rfl rfl ?_
    refine mul64 (q := (285870213051353865 : UInt64)) rfl rfl rfl rfl ?_
    refine shrn64 (58) (by omega) rfl rfl rfl rfl ?_
    refine ian ((shr64 ((x &&& -x) * 285870213051353865) 58).toNat) (((shr64 ((x &&& -x) * 285870213051353865) 58).toNat)) Tryz.underlying177 sz5 rfl rfl rfl rfl (by omega) (by omega) (by omega) ?_
    refine ldc sc5 rfl rfl rfl (gl_load (hG.st hS) (by omega)) ?_
    refine cvi Tryz.underlying3 ⟨_, Tryz.underlying5⟩ (by have := (gl deBl ((shr64 ((x &&& -x) * 285870213051353865) 58).toNat)).toNat_lt; omega) (by have := (gl deBl ((shr64 ((x &&& -x) * 285870213051353865) 58).toNat)).toNat_lt; omega) rfl rfl rfl ?_
    refine asg rfl rfl rfl ?_
    refine wq_then ?_
    refine wc_ret ?_
    refine fin1 (v := I (((gl deBl ((shr64 ((x &&& -x) * 285870213051353865) 58).toNat)).toNat : Int))) rfl rfl ?_
    refine ⟨?_, hS.drop⟩
    rw [ctz, if_neg hx]; rfl
end Go.Proofs.XZ

/- walks -/
namespace Go.Proofs.XZ
open Go Go.X Go.Proofs
set_option maxRecDepth 100000 in
theorem sp_bits_Zeros (x : UInt64) (w0 : World) (hx : x ≠ 0) (hG : Gl 0 w0) : Calls Tryz.prog 134 #[U64 x] w0 (Ret w0 (I ((ctz x : Nat) : Int))) := by
  refine enter (args := [U64 x]) Tryz.func134 rfl rfl ?_
  refine startw fun w hS => ?_
  refine rg ?_
  refine asg rfl rfl rfl ?_
  refine wq_then ?_
  refine rg ?_
  refine mv rfl rfl rfl ?_
  refine cv cf136 hS rfl rfl rfl rfl rfl (sp_math_bits_TrailingZeros64 (x) _ (by assumption) (hG.st hS)) ?_
  intro w hS
  refine asg rfl rfl rfl ?_
  refine wq_then ?_
  refine wc_ret ?_
  refine fin1 (v := I ((ctz x : Nat) : Int)) rfl rfl ?_
  exact ⟨rfl, hS.drop⟩
end Go.Proofs.XZ

/- walks -/
namespace Go.Proofs.XZ
open Go Go.X Go.Proofs
set_option maxRecDepth 100000 in
theorem sp_table_Table_For (t c : Nat) (key : V8 16) (x : UInt64) (w0 : World) (hT : TabAt w0 t c key) (hx : x ≠ 0) (hG : Gl 0 w0) : Calls Tryz.prog 109 #[Ptr t 0, U64 x] w0 (Ret w0 (.agg (BV (forN key x)))) := by
  refine enter (args := [Ptr t 0, U64 x]) Tryz.func109 rfl rfl ?_
  refine startw fun w hS => ?_
  obtain ⟨⟨T, hT1⟩, E, hC⟩ := id hT
  have hlt := ctz_lt x hx
  refine rg ?_
  refine ala zr22 hS rfl rfl ?_
  intro b4 w hb4 hS
  refine wq_then ?_
  refine rg ?_
  refine mv rfl rfl rfl ?_
  refine mv rfl rfl rfl ?_
  refine cv cf134 hS rfl rfl rfl rfl rfl (sp_bits_Zeros (x) _ (by assumption) (hG.st hS)) ?_
  intro w hS
  refine cv cf133 hS rfl rfl rfl rfl rfl (sp_table_Table_At (t) (c) (key) ((ctz x)) _ _ (by omega) (hT.st hS) (by omega)) ?_
  intro w hS
  refine sa 0 ag22 hS rfl rfl rfl (BV_one _) rfl (BV_size _) (BV_size _) ?_
  intro w hS
  refine wq_then ?_
  refine wc_ret ?_
  refine fin1 (v := .agg (BV (blkAt key (ctz x)))) rfl ⟨_, rfl, lv_a ag22 (hS.get 0 rfl) (BV_size _)⟩ ?_
  exact ⟨rfl, hS.drop⟩
end Go.Proofs.XZ

/- walks -/
namespace Go.Proofs.XZ
open Go Go.X Go.Proofs
set_option maxRecDepth 100000 in
theorem sp_offset_Next (t c : Nat) (key : V8 16) (last : V8 16) (x : UInt64) (w0 : World) (hT : TabAt w0 t c key) (hx : x ≠ 0) (hG : Gl 0 w0) : Calls Tryz.prog 80 #[Ptr t 0, .agg (BV last), U64 x] w0 (Ret w0 (.agg (BV (nextO key last x)))) := by
  refine enter (args := [Ptr t 0, .agg (BV last), U64 x]) Tryz.func80 rfl rfl ?_
  refine startw fun w hS => ?_
  obtain ⟨⟨T, hT1⟩, E, hC⟩ := id hT
  refine rg ?_
  refine bxa hS rfl rfl rfl ?_
  intro b4 w hb4 hS
  refine ala zr22 hS rfl rfl ?_
  intro b6 w hb6 hS
  refine wq_then ?_
  refine rd mo 5 (fun w => St w0 [] [(b6, .cells (BV (Vector.replicate 16 0)) 22), (b4, .cells (BV last) 22)] w) ?_
  have hS := hS.drew
  refine dq 0 rfl (by kernel_rfl) (by kernel_rfl) (by kernel_rfl) rfl rfl (fun w hS => la 1 ag22 hS rfl rfl rfl rfl (BV_size _) ⟨rfl, rfl⟩) hS ?_
  refine dq 1 rfl (by kernel_rfl) (by kernel_rfl) (by kernel_rfl) rfl rfl (fun w hS => mv rfl rfl rfl ⟨rfl, rfl⟩) hS ?_
  refine dq 2 rfl (by kernel_rfl) (by kernel_rfl) (by kernel_rfl) rfl rfl (fun w hS => mv rfl rfl rfl ⟨rfl, rfl⟩) hS ?_
  refine dl 3 rfl (by kernel_rfl) ?_
  refine cv cf109 hS rfl rfl rfl rfl rfl (sp_table_Table_For (t) (c) (key) (x) _ (hT.st hS) (by assumption) (hG.st hS)) ?_
  intro w hS
  refine ⟨fun _ => hS, ?_⟩
  refine dl 4 rfl (by kernel_rfl) ?_
  refine cv cf81 hS rfl rfl rfl rfl rfl (sp_block_Xor (last) ((forN key x)) _) ?_
  intro w hS
  refine ⟨fun _ => hS, ?_⟩
  refine dl 5 rfl (by kernel_rfl) ?_
  refine sa 0 ag22 hS rfl rfl rfl (BV_one _) rfl (BV_size _) (BV_size _) ?_
  intro w hS
  refine ⟨fun h => (by cases h), ?_⟩
  refine de (by kernel_rfl) ?_
  refine wq_then ?_
  refine wc_ret ?_
  refine fin1 (v := .agg (BV (xorV last (forN key x)))) rfl ⟨_, rfl, lv_a ag22 (hS.get 0 rfl) (BV_size _)⟩ ?_
  exact ⟨rfl, hS.drop⟩
end Go.Proofs.XZ

/- walks -/
namespace Go.Proofs.XZ
open Go Go.X Go.Proofs
set_option maxRecDepth 100000 in
theorem sp_hash_state_add (t c : Nat) (key : V8 16) (sum off part : V8 16) (k : Nat) (k_ : Int) (w0 : World) (hk_ : k_ = (k : Int)) (hT : TabAt w0 t c key) (hk0 : 0 < k) (hkN : k < 1000000) (hG : Gl 0 w0) : Calls Tryz.prog 111 #[.agg (BV sum ++ BV off), Ptr t 0, I k_, .agg (BV part)] w0 (Ret w0 (.agg (BV (addS key sum off part k) ++ BV (addO key off k)))) := by
  subst hk_
  refine enter (args := [.agg (BV sum ++ BV off), Ptr t 0, I (k : Int), .agg (BV part)]) Tryz.func111 rfl rfl ?_
  refine startw fun w hS => ?_
  obtain ⟨⟨T, hT1⟩, E, hC⟩ := id hT
  have hx := toU64_ne k hk0 hkN
  refine rg ?_
  refine bxa hS rfl rfl rfl ?_
  intro b4 w hb4 hS
  refine bxa hS rfl rfl rfl ?_
  intro b7 w hb7 hS
  refine ala zr158 hS rfl rfl ?_
  intro b8 w hb8 hS
  refine wq_then ?_
  refine rg ?_
  refine mv rfl rfl rfl ?_
  refine fan (16) (16) Tryz.underlying158 rfl sz22 (by decide) rfl rfl rfl rfl (by omega) ?_
  refine lp (u := .agg (BV off)) 2 ag22 hS rfl rfl rfl rfl (le_sz (a := 32) (cat_size (a := 16) (b := 16) (BV_size _) (BV_size _)) (by omega)) (cat_xr (a := 16) (o' := 0) (BV_size _) (by omega) (ext_all (BV_size _))) rfl ?_
  refine mv rfl rfl rfl ?_
  refine cvu64 Tryz.underlying23 ⟨_, Tryz.underlying3⟩ rfl rfl rfl ?_
  refine cv cf80 hS rfl rfl rfl rfl rfl (sp_offset_Next (t) (c) (key) (off) ((toU64 ((k : Int)))) _ (hT.st hS) (by assumption) (hG.st hS)) ?_
  intro w hS
  refine fan (16) (16) Tryz.underlying158 rfl sz22 (by decide) rfl rfl rfl rfl (by omega) ?_
  refine spp (cs' := BV sum ++ BV (nextO key off (toU64 ((k : Int))))) 2 ag22 hS rfl rfl rfl (BV_one _) rfl (le_sz (a := 32) (cat_size (a := 16) (b := 16) (BV_size _) (BV_size _)) (by omega)) (BV_size _) (cat_pr (a := 16) (o' := 0) (BV_size _) (by omega) (ple2 (BV_size _) (BV_size _) (by omega)) (put_all (BV_size _) (BV_size _))) ?_
  intro w hS
  refine wq_then ?_
  refine rd mo 10 (fun w => St w0 [] [(b8, .cells (BV (Vector.replicate 16 0) ++ BV (Vector.replicate 16 0)) 158), (b7, .cells (BV part) 22), (b4, .cells (BV sum ++ BV (nextO key off (toU64 ((k : Int))))) 158)] w) ?_
  have hS := hS.drew
  refine dq 0 rfl (by kernel_rfl) (by kernel_rfl) (by kernel_rfl) rfl rfl (fun w hS => fan (0) (0) Tryz.underlying158 rfl sz22 (by decide) rfl rfl rfl rfl (by omega) ⟨rfl, rfl⟩) hS ?_
  refine dq 1 rfl (by kernel_rfl) (by kernel_rfl) (by kernel_rfl) rfl rfl (fun w hS => lp (u := .agg (BV sum)) 2 ag22 hS rfl rfl rfl rfl (le_sz (a := 32) (cat_size (a := 16) (b := 16) (BV_size _) (BV_size _)) (by omega)) (cat_xl (a := 16) (BV_size _) (by omega) (ext_all (BV_size _))) rfl ⟨rfl, rfl⟩) hS ?_
  refine dq 2 rfl (by kernel_rfl) (by kernel_rfl) (by kernel_rfl) rfl rfl (fun w hS => mv rfl rfl rfl ⟨rfl, rfl⟩) hS ?_
  refine dq 4 rfl (by kernel_rfl) (by kernel_rfl) (by kernel_rfl) rfl rfl (fun w hS => la 1 ag22 hS rfl rfl rfl rfl (BV_size _) ⟨rfl, rfl⟩) hS ?_
  refine dq 5 rfl (by kernel_rfl) (by kernel_rfl) (by kernel_rfl) rfl rfl (fun w hS => fan (16) (16) Tryz.underlying158 rfl sz22 (by decide) rfl rfl rfl rfl (by omega) ⟨rfl, rfl⟩) hS ?_
  refine dq 6 rfl (by kernel_rfl) (by kernel_rfl) (by kernel_rfl) rfl rfl (fun w hS => lp (u := .agg (BV (nextO key off (toU64 ((k : Int)))))) 2 ag22 hS rfl rfl rfl rfl (le_sz (a := 32) (cat_size (a := 16) (b := 16) (BV_size _) (BV_size _)) (by omega)) (cat_xr (a := 16) (o' := 0) (BV_size _) (by omega) (ext_all (BV_size _))) rfl ⟨rfl, rfl⟩) hS ?_
  refine dl 3 rfl (by kernel_rfl) ?_
  refine cv cf82 hS rfl rfl rfl rfl rfl (sp_table_Table_Cipher (t) (c) (key) _ (hT.st hS)) ?_
  intro w hS
  refine ⟨fun _ => hS, ?_⟩
  refine dl 7 rfl (by kernel_rfl) ?_
  refine cv cf81 hS rfl rfl rfl rfl rfl (sp_block_Xor (part) ((nextO key off (toU64 ((k : Int))))) _) ?_
  intro w hS
  refine ⟨fun _ => hS, ?_⟩
  refine dl 8 rfl (by kernel_rfl) ?_
  refine cv cf21 hS rfl rfl rfl rfl rfl (sp_fast_Cipher_Encrypt (c) (_) (key) ((xorV part (nextO key off (toU64 ((k : Int)))))) _ (hS.old hC List.not_mem_nil)) ?_
  intro w hS
  refine ⟨fun _ => hS, ?_⟩
  refine dl 9 rfl (by kernel_rfl) ?_
  refine cv cf81 hS rfl rfl rfl rfl rfl (sp_block_Xor (sum) ((enc key (xorV part (nextO key off (toU64 ((k : Int))))))) _) ?_
  intro w hS
  refine ⟨fun _ => hS, ?_⟩
  refine dl 10 rfl (by kernel_rfl) ?_
  refine fan (0) (0) Tryz.underlying158 rfl sz22 (by decide) rfl rfl rfl rfl (by omega) ?_
  refine ⟨fun h => (by cases h), ?_⟩
  refine dl 11 rfl (by kernel_rfl) ?_
  refine spp (cs' := BV (xorV sum (enc key (xorV part (nextO key off (toU64 ((k : Int))))))) ++ BV (nextO key off (toU64 ((k : Int))))) 2 ag22 hS rfl rfl rfl (BV_one _) rfl (le_sz (a := 32) (cat_size (a := 16) (b := 16) (BV_size _) (BV_size _)) (by omega)) (BV_size _) (cat_pl (a := 16) (BV_size _) (ple (BV_size _) (by omega)) (put_all (BV_size _) (BV_size _))) ?_
  intro w hS
  refine ⟨fun h => (by cases h), ?_⟩
  refine de (by kernel_rfl) ?_
  refine wq_then ?_
  refine rg ?_
  refine la 2 ag158 hS rfl rfl rfl rfl (cat_size (a := 16) (b := 16) (BV_size _) (BV_size _)) ?_
  refine sa 0 ag158 hS rfl rfl rfl (cat_one (BV_one _) (BV_one _)) rfl (cat_size (a := 16) (b := 16) (BV_size _) (BV_size _)) (cat_size (a := 16) (b := 16) (BV_size _) (BV_size _)) ?_
  intro w hS
  refine wq_then ?_
  refine wc_ret ?_
  refine fin1 (v := .agg (BV (xorV sum (enc key (xorV part (nextO key off (toU64 ((k : Int))))))) ++ BV (nextO key off (toU64 ((k : Int)))))) rfl ⟨_, rfl, lv_a ag158 (hS.get 0 rfl) (cat_size (a := 16) (b := 16) (BV_size _) (BV_size _))⟩ ?_
  exact ⟨rfl, hS.drop⟩
end Go.Proofs.XZ

/- walks -/
namespace Go.Proofs.XZ
open Go Go.X Go.Proofs
set_option maxRecDepth 100000 in
theorem sp_block_Pad (a : Option Addr) (n cap : Nat) (bs : List UInt8) (w0 : World) (hn : bs.length = n) (hN : n ≤ 1000000) (hc : Cel w0 a (c8 bs)) (h16 : n < 16) : Calls Tryz.prog 84 #[.slice a n cap] w0 (Ret w0 (.tuple #[.agg (BV (padV bs)), .bool true])) := by
  refine enter (args := [.slice a n cap]) Tryz.func84 rfl rfl ?_
  refine startw fun w hS => ?_
  refine rg ?_
  refine ala zr22 hS rfl rfl ?_
  intro b2 w hb2 hS
  refine asg rfl rfl rfl ?_
  refine wq_then ?_
  refine rg ?_
  refine ala zr22 hS rfl rfl ?_
  intro b4 w hb4 hS
  refine wq_then ?_
  refine wc_seq ?_
  refine rg ?_
  refine mv rfl rfl rfl ?_
  refine lens Tryz.underlying25 rfl rfl rfl ?_
  refine geq rfl rfl rfl rfl ?_
  refine wq_then ?_
  refine wc_if rfl (fun hc1 => ?_) (fun hc1 => ?_)
  · skip
    try simp only [SB] at hc1
    exfalso; omega
  · skip
    try simp only [SB] at hc1
    refine wc_skip ?_
    refine wq_then ?_
    refine rg ?_
    refine a_all Tryz.underlying22 ⟨_, sz5⟩ rfl rfl rfl ?_
    refine mv rfl rfl rfl ?_
    refine cpy (cs' := BV (ofl 16 bs)) (q := n) (bs := bs) 0 sl25 hS rfl rfl rfl rfl rfl (hc.st hS) (by first | rfl | omega | (simp; omega) | (simp; done)) (by first | rfl | (simp only [Nat.min_def]; split <;> omega)) (le_sz (BV_size _) (by omega)) (pad_put bs n hn.symm (by omega)) ?_
    intro w hS
    refine ian (n) (n) Tryz.underlying22 sz5 rfl rfl rfl rfl (by omega) (by omega) (by omega) ?_
    refine st 0 sz5 hS rfl rfl rfl rfl rfl rfl (by rw [BV_size]; omega) (BV_set _ _ (128 : UInt8)) ?_
    intro w hS
    refine wq_then ?_
    refine rg ?_
    refine la 0 ag22 hS rfl rfl rfl rfl (BV_size _) ?_
    refine sa 1 ag22 hS rfl rfl rfl (BV_one _) rfl (BV_size _) (BV_size _) ?_
    intro w hS
    refine asg rfl rfl rfl ?_
    refine wq_then ?_
    refine wc_ret ?_
    refine fin2 (v := .agg (BV ((ofl 16 bs).setIfInBounds n 128))) (u := .bool (true)) rfl ⟨_, rfl, lv_a ag22 (hS.get 1 rfl) (BV_size _)⟩ rfl ?_
    refine ⟨?_, hS.drop⟩
    rw [← hn]; rfl
end Go.Proofs.XZ

/- walks -/
namespace Go.Proofs.XZ
open Go Go.X Go.Proofs
set_option maxRecDepth 100000 in
theorem sp_table_Table_Star (t c : Nat) (key : V8 16) (w0 : World) (hT : TabAt w0 t c key) : Calls Tryz.prog 83 #[Ptr t 0] w0 (Ret w0 (.agg (BV (star key)))) := by
  refine enter (args := [Ptr t 0]) Tryz.func83 rfl rfl ?_
  refine startw fun w hS => ?_
  obtain ⟨⟨T, hT1⟩, E, hC⟩ := id hT
  refine rg ?_
  refine ala zr22 hS rfl rfl ?_
  intro b2 w hb2 hS
  refine wq_then ?_
  refine rg ?_
  refine mv rfl rfl rfl ?_
  refine cv cf110 hS rfl rfl rfl rfl rfl (sp_table_Table_right (t) (c) (key) _ (hT.st hS)) ?_
  intro w hS
  refine nilp rfl rfl rfl ?_
  refine fan (1) (1) Tryz.underlying61 rfl sz22 (by decide) rfl rfl rfl rfl (by omega) ?_
  refine lpd (u := .agg (BV (star key))) hT1 List.not_mem_nil ag22 hS rfl rfl rfl (le_sz (a := 1057) (cat_size (a := 1) (b := 1056) rfl (cat_size (a := 16) (b := 1040) (BV_size _) (cat_size (a := 16) (b := 1024) (BV_size _) (BV_size _)))) (by omega)) (cat_xr (a := 1) (o' := 0) rfl (by omega) (cat_xl (a := 16) (BV_size _) (by omega) (ext_all (BV_size _)))) rfl ?_
  refine sa 0 ag22 hS rfl rfl rfl (BV_one _) rfl (BV_size _) (BV_size _) ?_
  intro w hS
  refine wq_then ?_
  refine wc_ret ?_
  refine fin1 (v := .agg (BV (star key))) rfl ⟨_, rfl, lv_a ag22 (hS.get 0 rfl) (BV_size _)⟩ ?_
  exact ⟨rfl, hS.drop⟩
end Go.Proofs.XZ

/- walks -/
namespace Go.Proofs.XZ
open Go Go.X Go.Proofs
set_option maxRecDepth 100000 in
theorem sp_hash_Rest (t c : Nat) (key : V8 16) (off : V8 16) (a : Option Addr) (n cap : Nat) (bs : List UInt8) (w0 : World) (hT : TabAt w0 t c key) (hn : bs.length = n) (hN : n ≤ 1000000) (hc : Cel w0 a (c8 bs)) (h16 : n < 16) : Calls Tryz.prog 112 #[Ptr t 0, .agg (BV off), .slice a n cap] w0 (Ret w0 (.agg (BV (restB key off bs)))) := by
  refine enter (args := [Ptr t 0, .agg (BV off), .slice a n cap]) Tryz.func112 rfl rfl ?_
  refine startw fun w hS => ?_
  obtain ⟨⟨T, hT1⟩, E, hC⟩ := id hT
  refine rg ?_
  refine bxa hS rfl rfl rfl ?_
  intro b4 w hb4 hS
  refine ala zr22 hS rfl rfl ?_
  intro b6 w hb6 hS
  refine wq_then ?_
  refine rg ?_
  refine mv rfl rfl rfl ?_
  refine cv cf84 hS rfl rfl rfl rfl rfl (sp_block_Pad (a) (n) (cap) (bs) _ (by first | rfl | omega | (simp; omega) | (simp; done)) (by omega) (hc.st hS) (by omega)) ?_
  intro w hS
  refine mv rfl rfl rfl ?_
  refine ext rfl rfl rfl rfl ?_
  refine ext rfl rfl rfl rfl ?_
  refine ala zr22 hS rfl rfl ?_
  intro b7 w hb7 hS
  refine sa 0 ag22 hS rfl rfl rfl (BV_one _) rfl (BV_size _) (BV_size _) ?_
  intro w hS
  refine asg rfl rfl rfl ?_
  refine wq_then ?_
  refine wc_seq ?_
  refine rg ?_
  refine mv rfl rfl rfl ?_
  refine notb rfl rfl rfl ?_
  refine mv rfl rfl rfl ?_
  refine mv rfl rfl rfl ?_
  refine lens Tryz.underlying25 rfl rfl rfl ?_
  refine eqi rfl rfl rfl rfl ?_
  refine pk_f rfl rfl rfl rfl ?_
  refine wq_then ?_
  refine wc_if rfl (fun hc1 => ?_) (fun hc1 => ?_)
  · skip
    try simp only [SB] at hc1
    have hz : bs.length = 0 := by omega
    refine rg ?_
    refine bd (cs := BV (Vector.replicate 16 0)) rfl rfl rfl (by kernel_rfl) ?_
    refine sa 1 ag22 hS rfl rfl rfl (BV_one _) rfl (BV_size _) (BV_size _) ?_
    intro w hS
    refine wq_then ?_
    refine wc_ret ?_
    refine q_then_ret ?_
    refine fin1 (v := .agg (BV (Vector.replicate 16 0))) rfl ⟨_, rfl, lv_a ag22 (hS.get 1 rfl) (BV_size _)⟩ ?_
    refine ⟨?_, hS.drop⟩
    simp only [restB]; rw [if_pos hz]
  · skip
    try simp only [SB] at hc1
    have hz : ¬ bs.length = 0 := by omega
    refine wc_skip ?_
    refine wq_then ?_
    refine rd mo 9 (fun w => St w0 [] [(b7, .cells (BV (padV bs)) 22), (b6, .cells (BV (Vector.replicate 16 0)) 22), (b4, .cells (BV off) 22)] w) ?_
    have hS := hS.drew
    refine dq 0 rfl (by kernel_rfl) (by kernel_rfl) (by kernel_rfl) rfl rfl (fun w hS => mv rfl rfl rfl ⟨rfl, rfl⟩) hS ?_
    refine dq 2 rfl (by kernel_rfl) (by kernel_rfl) (by kernel_rfl) rfl rfl (fun w hS => la 0 ag22 hS rfl rfl rfl rfl (BV_size _) ⟨rfl, rfl⟩) hS ?_
    refine dq 3 rfl (by kernel_rfl) (by kernel_rfl) (by kernel_rfl) rfl rfl (fun w hS => la 2 ag22 hS rfl rfl rfl rfl (BV_size _) ⟨rfl, rfl⟩) hS ?_
    refine dq 4 rfl (by kernel_rfl) (by kernel_rfl) (by kernel_rfl) rfl rfl (fun w hS => mv rfl rfl rfl ⟨rfl, rfl⟩) hS ?_
    refine dl 1 rfl (by kernel_rfl) ?_
    refine cv cf82 hS rfl rfl rfl rfl rfl (sp_table_Table_Cipher (t) (c) (key) _ (hT.st hS)) ?_
    intro w hS
    refine ⟨fun _ => hS, ?_⟩
    refine dl 5 rfl (by kernel_rfl) ?_
    refine cv cf83 hS rfl rfl rfl rfl rfl (sp_table_Table_Star (t) (c) (key) _ (hT.st hS)) ?_
    intro w hS
    refine ⟨fun _ => hS, ?_⟩
    refine dl 6 rfl (by kernel_rfl) ?_
    refine cv cf81 hS rfl rfl rfl rfl rfl (sp_block_Xor (off) ((star key)) _) ?_
    intro w hS
    refine ⟨fun _ => hS, ?_⟩
    refine dl 7 rfl (by kernel_rfl) ?_
    refine cv cf81 hS rfl rfl rfl rfl rfl (sp_block_Xor ((padV bs)) ((xorV off (star key))) _) ?_
    intro w hS
    refine ⟨fun _ => hS, ?_⟩
    refine dl 8 rfl (by kernel_rfl) ?_
    refine cv cf21 hS rfl rfl rfl rfl rfl (sp_fast_Cipher_Encrypt (c) (_) (key) ((xorV (padV bs) (xorV off (star key)))) _ (hS.old hC List.not_mem_nil)) ?_
    intro w hS
    refine ⟨fun _ => hS, ?_⟩
    refine dl 9 rfl (by kernel_rfl) ?_
    refine sa 1 ag22 hS rfl rfl rfl (BV_one _) rfl (BV_size _) (BV_size _) ?_
    intro w hS
    refine ⟨fun h => (by cases h), ?_⟩
    refine de (by kernel_rfl) ?_
    refine wq_then ?_
    refine wc_ret ?_
    refine fin1 (v := .agg (BV (enc key (xorV (padV bs) (xorV off (star key)))))) rfl ⟨_, rfl, lv_a ag22 (hS.get 1 rfl) (BV_size _)⟩ ?_
    refine ⟨?_, hS.drop⟩
    simp only [restB]; rw [if_neg hz]
end Go.Proofs.XZ
