/- For every key and bytes, the law PacketDecodes of package mooringlaw17 returns true and leaves what it was given as it was; under the condition that the table of the numbers of zeros in package math/bits reads as the program lays it. -/
import Derived.Test.YtffhheogdmekdaaGreatDoorBase7
import Derived.Test.YtffhheogdmekdaaGreatDoorProg
import Derived.Test.YtffhheogdmekdaaGreatDoorCards
import Derived.Test.YtffhheogdmekdaaGreatDoorTie
set_option linter.unusedVariables false
set_option linter.unusedSimpArgs false
set_option linter.unnecessarySimpa false
/- walks -/
namespace Go.Proofs.XZ
open Go Go.X Go.Proofs
set_option maxRecDepth 1000000 in
theorem cf5 : Callable Tryz.prog 5 := ⟨_, Tryz.func5, by kernel_rfl, rfl⟩
set_option maxRecDepth 1000000 in
theorem cf6 : Callable Tryz.prog 6 := ⟨_, Tryz.func6, by kernel_rfl, rfl⟩
set_option maxRecDepth 1000000 in
theorem cf10 : Callable Tryz.prog 10 := ⟨_, Tryz.func10, by kernel_rfl, rfl⟩
set_option maxRecDepth 1000000 in
theorem cf15 : Callable Tryz.prog 15 := ⟨_, Tryz.func15, by kernel_rfl, rfl⟩
set_option maxRecDepth 1000000 in
theorem cf14 : Callable Tryz.prog 14 := ⟨_, Tryz.func14, by kernel_rfl, rfl⟩
set_option maxRecDepth 1000000 in
theorem cf17 : Callable Tryz.prog 17 := ⟨_, Tryz.func17, by kernel_rfl, rfl⟩
end Go.Proofs.XZ

/- walks -/
namespace Go.Proofs.XZ
open Go Go.X Go.Proofs
set_option maxRecDepth 100000 in
theorem sp_mooringref04_Affine (b : UInt8) (w0 : World) : Calls Tryz.prog 64 #[U8 b] w0 (Ret w0 (U8 (afR b))) := by
  refine enter (args := [U8 b]) Tryz.func64 rfl rfl ?_
  refine startw fun w hS => ?_
  refine rg ?_
  refine asg rfl rfl rfl ?_
  refine wq_then ?_
  refine rg ?_
  refine asg rfl rfl rfl ?_
  refine wq_then ?_
  refine wc_seq ?_
  refine rg ?_
  refine asg rfl rfl rfl ?_
  refine wq_then ?_
  refine wc_block ?_
  refine wc_loop (σ := Nat) (fun m => [(0, U8 (b)), (2, U8 (0)), (3, I (((afX b m : Nat) : Int))), (4, I ((m : Int)))])
    (fun m w => (m ≤ 8) ∧ St w0 [] [] w) (fun m => 8 - m) 0 ⟨rfl, rfl, rfl, rfl, trivial⟩ ⟨by omega, hS⟩ ?_
  rintro m w ⟨hk, hS⟩
  have hx := afX_le b m (by omega)
  have hp : 0 ≤ (99 : Int) / ((2 ^ m : Nat) : Int) := Int.ediv_nonneg (by omega) (Int.natCast_nonneg _)
  refine wc_seq ?_
  refine rg ?_
  refine mv rfl rfl rfl ?_
  refine lss rfl rfl rfl rfl ?_
  refine wq_then ?_
  refine wc_if rfl (fun hc1 => ?_) (fun hc1 => ?_)
  · skip
    try simp only [SB] at hc1
    refine wc_skip ?_
    refine wq_then ?_
    refine wc_seq ?_
    refine wc_block ?_
    refine rg ?_
    refine mv rfl rfl rfl ?_
    refine cvu64 Tryz.underlying79 ⟨_, Tryz.underlying3⟩ rfl rfl rfl ?_
    refine shrin (m) (toU64_un (by omega) (by omega)) (by omega) rfl rfl rfl rfl ?_
    refine remi (by omega) (by omega) rfl rfl rfl rfl ?_
    refine asg rfl rfl rfl ?_
    refine wq_then ?_
    refine rg ?_
    refine mv rfl rfl rfl ?_
    refine mv rfl rfl rfl ?_
    refine mv rfl rfl rfl ?_
    refine cvu64 Tryz.underlying79 ⟨_, Tryz.underlying3⟩ rfl rfl rfl ?_
    refine shrn8 (m) (toU64_un (by omega) (by omega)) rfl rfl rfl rfl ?_
    refine cvi Tryz.underlying3 ⟨_, Tryz.underlying5⟩ (by have := (shr8 b m).toNat_lt; omega) (by have := (shr8 b m).toNat_lt; omega) rfl rfl rfl ?_
    refine remi (by omega) (by omega) rfl rfl rfl rfl ?_
    refine addi (by omega) (by omega) rfl rfl rfl rfl ?_
    refine asg rfl rfl rfl ?_
    refine wq_then ?_
    refine wc_seq ?_
    refine rg ?_
    refine asg rfl rfl rfl ?_
    refine wq_then ?_
    refine wc_block ?_
    refine wc_loop (σ := Nat) (fun k => [(0, U8 (b)), (2, U8 (0)), (3, I (((afX b m : Nat) : Int))), (4, I ((m : Int))), (5, I (((afN b m k : Nat) : Int))), (6, I ((4 : Int) + (k : Int)))])
      (fun k w => (k ≤ 4) ∧ St w0 [] [] w) (fun k => 4 - k) 0 ⟨rfl, rfl, rfl, rfl, rfl, rfl, trivial⟩ ⟨by omega, hS⟩ ?_
    rintro k w ⟨hk, hS⟩
    have hn := afN_le b m k
    refine wc_seq ?_
    refine rg ?_
    refine mv rfl rfl rfl ?_
    refine lss rfl rfl rfl rfl ?_
    refine wq_then ?_
    refine wc_if rfl (fun hc2 => ?_) (fun hc2 => ?_)
    · skip
      try simp only [SB] at hc2
      refine wc_skip ?_
      refine wq_then ?_
      refine wc_seq ?_
      refine wc_block ?_
      refine wc_region ?_
      refine mv rfl rfl rfl ?_
      refine mv rfl rfl rfl ?_
      refine mv rfl rfl rfl ?_
      refine mv rfl rfl rfl ?_
      refine addi (by omega) (by omega) rfl rfl rfl rfl ?_
      refine remi (by omega) (by omega) rfl rfl rfl rfl ?_
      refine cvu64 Tryz.underlying79 ⟨_, Tryz.underlying3⟩ rfl rfl rfl ?_
      refine shrn8 ((m + (4 + k)) % 8) (toU64_un (by omega) (by omega)) rfl rfl rfl rfl ?_
      refine cvi Tryz.underlying3 ⟨_, Tryz.underlying5⟩ (by have := (shr8 b ((m + (4 + k)) % 8)).toNat_lt; omega) (by have := (shr8 b ((m + (4 + k)) % 8)).toNat_lt; omega) rfl rfl rfl ?_
      refine remi (by omega) (by omega) rfl rfl rfl rfl ?_
      refine addi (by omega) (by omega) rfl rfl rfl rfl ?_
      refine asg rfl rfl rfl ?_
      refine q_block_norm ?_
      refine wq_then ?_
      refine wc_region ?_
      refine mv rfl rfl rfl ?_
      refine addi (by omega) (by omega) rfl rfl rfl rfl ?_
      refine asg rfl rfl rfl ?_
      refine again_q (k + 1) ⟨rfl, rfl, rfl, rfl, lkI rfl (by simp [afN, bt]), lkI rfl (by omega), trivial⟩ ⟨by omega, hS⟩ (by omega)
    · skip
      try simp only [SB] at hc2
      have hk4 : k = 4 := by omega
      subst hk4
      have hn4 := afN_le b m 4
      refine wc_exit ?_
      refine q_then_exit ?_
      refine q_then_exit ?_
      refine q_block_hit ?_
      refine wq_then ?_
      refine wc_region ?_
      refine mv rfl rfl rfl ?_
      refine mv rfl rfl rfl ?_
      refine remi (by omega) (by omega) rfl rfl rfl rfl ?_
      refine mv rfl rfl rfl ?_
      refine cvu64 Tryz.underlying79 ⟨_, Tryz.underlying3⟩ rfl rfl rfl ?_
      refine shlin (m) (toU64_un (by omega) (by omega)) (by omega) (by have h := shb (afN b m 4) m (by omega); omega) (by have h := shb (afN b m 4) m (by omega); omega) rfl rfl rfl rfl ?_
      refine addi (by have h := shb (afN b m 4) m (by omega); omega) (by have h := shb (afN b m 4) m (by omega); omega) rfl rfl rfl rfl ?_
      refine asg rfl rfl rfl ?_
      refine q_block_norm ?_
      refine wq_then ?_
      refine wc_region ?_
      refine mv rfl rfl rfl ?_
      refine addi (by omega) (by omega) rfl rfl rfl rfl ?_
      refine asg rfl rfl rfl ?_
      refine again_q (m + 1) ⟨rfl, rfl, lkI rfl (by simp [afX]), lkI rfl (by first | omega | rfl), trivial⟩ ⟨by omega, hS⟩ (by omega)
  · skip
    try simp only [SB] at hc1
    refine wc_exit ?_
    refine q_then_exit ?_
    refine q_then_exit ?_
    refine q_block_hit ?_
    refine wq_then ?_
    refine rg ?_
    refine mv rfl rfl rfl ?_
    refine cvu8 Tryz.underlying5 ⟨_, Tryz.underlying3⟩ rfl rfl rfl ?_
    refine asg rfl rfl rfl ?_
    refine wq_then ?_
    refine wc_ret ?_
    refine fin1 (v := U8 (toU8 (((afX b m : Nat) : Int)))) rfl rfl ?_
    have hk8 : m = 8 := by omega
    subst hk8
    exact ⟨rfl, hS.drop⟩
end Go.Proofs.XZ

/- walks -/
namespace Go.Proofs.XZ
open Go Go.X Go.Proofs
set_option maxRecDepth 100000 in
theorem sp_mooringref04_Table (w0 : World) : Calls Tryz.prog 41 #[] w0 (Ret w0 (.agg (BV sboxV))) := by
  refine enter (args := []) Tryz.func41 rfl rfl ?_
  refine startw fun w hS => ?_
  refine rg ?_
  refine ala zr46 hS rfl rfl ?_
  intro b0 w hb0 hS
  refine wq_then ?_
  refine rg ?_
  refine ala zr46 hS rfl rfl ?_
  intro b1 w hb1 hS
  refine wq_then ?_
  refine rg ?_
  refine asg rfl rfl rfl ?_
  refine wq_then ?_
  refine wc_seq ?_
  refine rg ?_
  refine asg rfl rfl rfl ?_
  refine wq_then ?_
  refine wc_block ?_
  refine wc_loop (σ := Nat) (fun k => [(0, Ptr b0 0), (1, Ptr b1 0), (2, U8 (pw3R k)), (3, I ((k : Int)))])
    (fun k w => (k ≤ 256) ∧ St w0 [] [(b1, .cells (BV (fill8 256 pw3R (Vector.replicate 256 0) k)) 46), (b0, .cells (BV (Vector.replicate 256 0)) 46)] w) (fun k => 256 - k) 0 ⟨rfl, rfl, rfl, rfl, trivial⟩ ⟨by omega, (by simp only [Nat.zero_mul, Nat.add_zero, fill8_0, fill32_0]; exact hS)⟩ ?_
  rintro k w ⟨hk, hS⟩
  refine wc_seq ?_
  refine rg ?_
  refine mv rfl rfl rfl ?_
  refine lss rfl rfl rfl rfl ?_
  refine wq_then ?_
  refine wc_if rfl (fun hc1 => ?_) (fun hc1 => ?_)
  · skip
    try simp only [SB] at hc1
    refine wc_skip ?_
    refine wq_then ?_
    refine wc_seq ?_
    refine wc_block ?_
    refine rg ?_
    refine mv rfl rfl rfl ?_
    refine mv rfl rfl rfl ?_
    refine ian (k) (k) Tryz.underlying46 sz5 rfl rfl rfl rfl (by omega) (by omega) (by omega) ?_
    refine st (cs' := BV (fill8 256 pw3R (Vector.replicate 256 0) (k + 1))) 0 sz5 hS rfl rfl rfl rfl rfl rfl (by rw [BV_size]; omega) (by rw [BV_set]; exact congrArg BV (fill8_succ pw3R (Vector.replicate 256 0) k)) ?_
    intro w hS
    refine wq_then ?_
    refine wc_region ?_
    refine mv rfl rfl rfl ?_
    refine cv cf63 hS rfl rfl rfl rfl rfl (sp_mooringref03_Mul ((pw3R k)) (3) _) ?_
    intro w hS
    refine asg rfl rfl rfl ?_
    refine q_block_norm ?_
    refine wq_then ?_
    refine wc_region ?_
    refine mv rfl rfl rfl ?_
    refine addi (by omega) (by omega) rfl rfl rfl rfl ?_
    refine asg rfl rfl rfl ?_
    refine again_q (k + 1) ⟨rfl, rfl, rfl, lkI rfl (by first | omega | rfl), trivial⟩ ⟨by omega, hS⟩ (by omega)
  · skip
    try simp only [SB] at hc1
    have hk8 : k = 256 := by omega
    rw [hk8, fill8_n] at hS
    refine wc_exit ?_
    refine q_then_exit ?_
    refine q_then_exit ?_
    refine q_block_hit ?_
    refine wq_then ?_
    refine rg ?_
    refine ala zr46 hS rfl rfl ?_
    intro b4 w hb4 hS
    refine wq_then ?_
    refine rg ?_
    refine cv cf64 hS rfl rfl rfl rfl rfl (sp_mooringref04_Affine (0) _) ?_
    intro w hS
    refine ian (0) (0) Tryz.underlying46 sz5 rfl rfl rfl rfl (by omega) (by omega) (by omega) ?_
    refine st 0 sz5 hS rfl rfl rfl rfl rfl rfl (by rw [BV_size]; omega) (BV_set _ _ (afR 0 : UInt8)) ?_
    intro w hS
    refine wq_then ?_
    refine wc_seq ?_
    refine rg ?_
    refine asg rfl rfl rfl ?_
    refine wq_then ?_
    refine wc_block ?_
    refine wc_loop (σ := Nat) (fun m => [(0, Ptr b0 0), (1, Ptr b1 0), (4, Ptr b4 0), (5, I ((m : Int)))])
      (fun m w => (m ≤ 255) ∧ St w0 [] [(b4, .cells (BV (tbR m)) 46), (b1, .cells (BV pwV) 46), (b0, .cells (BV (Vector.replicate 256 0)) 46)] w) (fun m => 255 - m) 0 ⟨rfl, rfl, rfl, rfl, trivial⟩ ⟨by omega, hS⟩ ?_
    rintro m w ⟨hk, hS⟩
    refine wc_seq ?_
    refine rg ?_
    refine mv rfl rfl rfl ?_
    refine lss rfl rfl rfl rfl ?_
    refine wq_then ?_
    refine wc_if rfl (fun hc2 => ?_) (fun hc2 => ?_)
    · skip
      try simp only [SB] at hc2
      refine wc_skip ?_
      refine wq_then ?_
      refine wc_seq ?_
      refine wc_block ?_
      refine wc_draw mo 8 (fun w => St w0 [] [(b4, .cells (BV (tbR m)) 46), (b1, .cells (BV pwV) 46), (b0, .cells (BV (Vector.replicate 256 0)) 46)] w) ?_
      have hS := hS.drew
      refine dq 0 rfl (by kernel_rfl) (by kernel_rfl) (by kernel_rfl) rfl rfl (fun w hS => mv rfl rfl rfl ⟨rfl, rfl⟩) hS ?_
      refine dq 1 rfl (by kernel_rfl) (by kernel_rfl) (by kernel_rfl) rfl rfl (fun w hS => ian (m) (m) Tryz.underlying46 sz5 rfl rfl rfl rfl (by omega) (by omega) (by omega) ⟨rfl, rfl⟩) hS ?_
      refine dq 2 rfl (by kernel_rfl) (by kernel_rfl) (by kernel_rfl) rfl rfl (fun w hS => lo 1 sc5 hS rfl rfl rfl rfl (BV_get _ m (by omega)) ⟨rfl, rfl⟩) hS ?_
      refine dq 3 rfl (by kernel_rfl) (by kernel_rfl) (by kernel_rfl) rfl rfl (fun w hS => mv rfl rfl rfl ⟨rfl, rfl⟩) hS ?_
      refine dq 4 rfl (by kernel_rfl) (by kernel_rfl) (by kernel_rfl) rfl rfl (fun w hS => subi (by omega) (by omega) rfl rfl rfl rfl ⟨rfl, rfl⟩) hS ?_
      refine dq 5 rfl (by kernel_rfl) (by kernel_rfl) (by kernel_rfl) rfl rfl (fun w hS => ian (255 - m) ((255 - m)) Tryz.underlying46 sz5 rfl rfl rfl rfl (by omega) (by omega) (by omega) ⟨rfl, rfl⟩) hS ?_
      refine dq 6 rfl (by kernel_rfl) (by kernel_rfl) (by kernel_rfl) rfl rfl (fun w hS => lo 1 sc5 hS rfl rfl rfl rfl (BV_get _ (255 - m) (by omega)) ⟨rfl, rfl⟩) hS ?_
      refine dl 7 rfl (by kernel_rfl) ?_
      refine cv cf64 hS rfl rfl rfl rfl rfl (sp_mooringref04_Affine ((gv pwV (255 - m))) _) ?_
      intro w hS
      refine ⟨fun _ => hS, ?_⟩
      refine dl 8 rfl (by kernel_rfl) ?_
      refine ian ((gv pwV m).toNat) (((gv pwV m).toNat)) Tryz.underlying46 sz5 rfl rfl rfl rfl (by omega) (by have := (gv pwV m).toNat_lt; omega) (by omega) ?_
      refine ⟨fun h => (by cases h), ?_⟩
      refine dl 9 rfl (by kernel_rfl) ?_
      refine st 0 sz5 hS rfl rfl rfl rfl rfl rfl (by rw [BV_size]; have := (gv pwV m).toNat_lt; omega) (BV_set _ _ (afR (gv pwV (255 - m)) : UInt8)) ?_
      intro w hS
      refine ⟨fun h => (by cases h), ?_⟩
      refine de (by kernel_rfl) ?_
      refine q_block_norm ?_
      refine wq_then ?_
      refine wc_region ?_
      refine mv rfl rfl rfl ?_
      refine addi (by omega) (by omega) rfl rfl rfl rfl ?_
      refine asg rfl rfl rfl ?_
      refine again_q (m + 1) ⟨rfl, rfl, rfl, lkI rfl (by first | omega | rfl), trivial⟩ ⟨by omega, hS⟩ (by omega)
    · skip
      try simp only [SB] at hc2
      refine wc_exit ?_
      refine q_then_exit ?_
      refine q_then_exit ?_
      refine q_block_hit ?_
      refine wq_then ?_
      refine rg ?_
      refine la 0 ag46 hS rfl rfl rfl rfl (BV_size _) ?_
      refine sa 2 ag46 hS rfl rfl rfl (BV_one _) rfl (BV_size _) (BV_size _) ?_
      intro w hS
      refine wq_then ?_
      refine wc_ret ?_
      refine fin1 (v := .agg (BV (tbR m))) rfl ⟨_, rfl, lv_a ag46 (hS.get 2 rfl) (BV_size _)⟩ ?_
      refine ⟨?_, hS.drop⟩
      have hk5 : m = 255 := by omega
      rw [hk5, tbR_sbox]
end Go.Proofs.XZ

/- walks -/
namespace Go.Proofs.XZ
open Go Go.X Go.Proofs
set_option maxRecDepth 100000 in
theorem sp_mooringref03_Power (a : UInt8) (n : Nat) (n_ : Int) (w0 : World) (hn_ : n_ = (n : Int)) (hn : n < 9223372036854775808) : Calls Tryz.prog 99 #[U8 a, I n_] w0 (Ret w0 (U8 (pwR a n))) := by
  subst hn_
  refine enter (args := [U8 a, I (n : Int)]) Tryz.func99 rfl rfl ?_
  refine startw fun w hS => ?_
  refine rg ?_
  refine asg rfl rfl rfl ?_
  refine wq_then ?_
  refine rg ?_
  refine asg rfl rfl rfl ?_
  refine wq_then ?_
  refine wc_seq ?_
  refine rg ?_
  refine asg rfl rfl rfl ?_
  refine wq_then ?_
  refine wc_block ?_
  refine wc_loop (σ := Nat) (fun k => [(0, U8 (a)), (1, I ((n : Int))), (4, U8 (0)), (5, U8 (pwR a k)), (6, I ((k : Int)))])
    (fun k w => (k ≤ n ∧ n < 9223372036854775808) ∧ St w0 [] [] w) (fun k => n - k) 0 ⟨rfl, rfl, rfl, rfl, rfl, trivial⟩ ⟨⟨by omega, hn⟩, hS⟩ ?_
  rintro k w ⟨⟨hk, hn2⟩, hS⟩
  refine wc_seq ?_
  refine rg ?_
  refine mv rfl rfl rfl ?_
  refine mv rfl rfl rfl ?_
  refine lss rfl rfl rfl rfl ?_
  refine wq_then ?_
  refine wc_if rfl (fun hc1 => ?_) (fun hc1 => ?_)
  · skip
    try simp only [SB] at hc1
    refine wc_skip ?_
    refine wq_then ?_
    refine wc_seq ?_
    refine wc_block ?_
    refine wc_region ?_
    refine mv rfl rfl rfl ?_
    refine mv rfl rfl rfl ?_
    refine cv cf63 hS rfl rfl rfl rfl rfl (sp_mooringref03_Mul ((pwR a k)) (a) _) ?_
    intro w hS
    refine asg rfl rfl rfl ?_
    refine q_block_norm ?_
    refine wq_then ?_
    refine wc_region ?_
    refine mv rfl rfl rfl ?_
    refine addi (by omega) (by omega) rfl rfl rfl rfl ?_
    refine asg rfl rfl rfl ?_
    refine again_q (k + 1) ⟨rfl, rfl, rfl, rfl, lkI rfl (by first | omega | rfl), trivial⟩ ⟨⟨by omega, hn2⟩, hS⟩ (by omega)
  · skip
    try simp only [SB] at hc1
    refine wc_exit ?_
    refine q_then_exit ?_
    refine q_then_exit ?_
    refine q_block_hit ?_
    refine wq_then ?_
    refine rg ?_
    refine mv rfl rfl rfl ?_
    refine asg rfl rfl rfl ?_
    refine wq_then ?_
    refine wc_ret ?_
    refine fin1 (v := U8 (pwR a k)) rfl rfl ?_
    have hk4 : k = n := by omega
    subst hk4
    exact ⟨rfl, hS.drop⟩
end Go.Proofs.XZ

/- walks -/
namespace Go.Proofs.XZ
open Go Go.X Go.Proofs
set_option maxRecDepth 100000 in
set_option maxHeartbeats 1000000 in
theorem sp_mooringref05_Words (key : V8 16) (w0 : World) : Calls Tryz.prog 62 #[.agg (BV key)] w0 (Ret w0 (.agg (BV (wdS key 44)))) := by
  refine enter (args := [.agg (BV key)]) Tryz.func62 rfl rfl ?_
  refine startw fun w hS => ?_
  refine rg ?_
  refine bxa hS rfl rfl rfl ?_
  intro b1 w hb1 hS
  refine ala zr117 hS rfl rfl ?_
  intro b2 w hb2 hS
  refine wq_then ?_
  refine rg ?_
  refine cv cf41 hS rfl rfl rfl rfl rfl (sp_mooringref04_Table _) ?_
  intro w hS
  refine ala zr46 hS rfl rfl ?_
  intro b3 w hb3 hS
  refine sa 0 ag46 hS rfl rfl rfl (BV_one _) rfl (BV_size _) (BV_size _) ?_
  intro w hS
  refine wq_then ?_
  refine rg ?_
  refine ala zr117 hS rfl rfl ?_
  intro b4 w hb4 hS
  refine wq_then ?_
  refine wc_seq ?_
  refine rg ?_
  refine asg rfl rfl rfl ?_
  refine wq_then ?_
  refine wc_block ?_
  refine wc_loop (σ := Nat) (fun m => [(1, Ptr b1 0), (2, Ptr b2 0), (3, Ptr b3 0), (4, Ptr b4 0), (5, I ((m : Int)))])
    (fun m w => (m ≤ 44) ∧ St w0 [] [(b4, .cells (BV (wdS key m)) 117), (b3, .cells (BV sboxV) 46), (b2, .cells (BV (Vector.replicate 176 0)) 117), (b1, .cells (BV key) 22)] w) (fun m => 44 - m) 0 ⟨rfl, rfl, rfl, rfl, rfl, trivial⟩ ⟨by omega, hS⟩ ?_
  rintro m w ⟨hk, hS⟩
  refine wc_seq ?_
  refine rg ?_
  refine mv rfl rfl rfl ?_
  refine lss rfl rfl rfl rfl ?_
  refine wq_then ?_
  refine wc_if rfl (fun hc1 => ?_) (fun hc1 => ?_)
  · skip
    try simp only [SB] at hc1
    refine wc_skip ?_
    refine wq_then ?_
    refine wc_seq ?_
    refine wc_block ?_
    refine wc_seq ?_
    refine rg ?_
    refine mv rfl rfl rfl ?_
    refine lss rfl rfl rfl rfl ?_
    refine wq_then ?_
    refine wc_if rfl (fun hc2 => ?_) (fun hc2 => ?_)
    · skip
      try simp only [SB] at hc2
      have hi4 : m < 4 := by omega
      refine rd mo 21 (fun w => St w0 [] [(b3, .cells (BV sboxV) 46), (b2, .cells (BV (Vector.replicate 176 0)) 117), (b1, .cells (BV key) 22)] w) ?_
      have hS := hS.drew
      refine dq 0 rfl (by kernel_rfl) (by kernel_rfl) (by kernel_rfl) rfl rfl (fun w hS => mv rfl rfl rfl ⟨rfl, rfl⟩) (hS.sublist (.cons _ (.cons_cons _ (.cons_cons _ (.cons_cons _ (List.nil_sublist _)))))) ?_
      refine dq 1 rfl (by kernel_rfl) (by kernel_rfl) (by kernel_rfl) rfl rfl (fun w hS => mv rfl rfl rfl ⟨rfl, rfl⟩) (hS.sublist (.cons _ (.cons_cons _ (.cons_cons _ (.cons_cons _ (List.nil_sublist _)))))) ?_
      refine dq 2 rfl (by kernel_rfl) (by kernel_rfl) (by kernel_rfl) rfl rfl (fun w hS => muli (by omega) (by omega) rfl rfl rfl rfl ⟨rfl, rfl⟩) (hS.sublist (.cons _ (.cons_cons _ (.cons_cons _ (.cons_cons _ (List.nil_sublist _)))))) ?_
      refine dq 3 rfl (by kernel_rfl) (by kernel_rfl) (by kernel_rfl) rfl rfl (fun w hS => ian (4 * m) ((4 * m)) Tryz.underlying22 sz5 rfl rfl rfl rfl (by omega) (by omega) (by omega) ⟨rfl, rfl⟩) (hS.sublist (.cons _ (.cons_cons _ (.cons_cons _ (.cons_cons _ (List.nil_sublist _)))))) ?_
      refine dq 4 rfl (by kernel_rfl) (by kernel_rfl) (by kernel_rfl) rfl rfl (fun w hS => lo 2 sc5 hS rfl rfl rfl rfl (BV_get _ (4 * m) (by omega)) ⟨rfl, rfl⟩) (hS.sublist (.cons _ (.cons_cons _ (.cons_cons _ (.cons_cons _ (List.nil_sublist _)))))) ?_
      refine dq 5 rfl (by kernel_rfl) (by kernel_rfl) (by kernel_rfl) rfl rfl (fun w hS => mv rfl rfl rfl ⟨rfl, rfl⟩) (hS.sublist (.cons _ (.cons_cons _ (.cons_cons _ (.cons_cons _ (List.nil_sublist _)))))) ?_
      refine dq 6 rfl (by kernel_rfl) (by kernel_rfl) (by kernel_rfl) rfl rfl (fun w hS => muli (by omega) (by omega) rfl rfl rfl rfl ⟨rfl, rfl⟩) (hS.sublist (.cons _ (.cons_cons _ (.cons_cons _ (.cons_cons _ (List.nil_sublist _)))))) ?_
      refine dq 7 rfl (by kernel_rfl) (by kernel_rfl) (by kernel_rfl) rfl rfl (fun w hS => addi (by omega) (by omega) rfl rfl rfl rfl ⟨rfl, rfl⟩) (hS.sublist (.cons _ (.cons_cons _ (.cons_cons _ (.cons_cons _ (List.nil_sublist _)))))) ?_
      refine dq 8 rfl (by kernel_rfl) (by kernel_rfl) (by kernel_rfl) rfl rfl (fun w hS => ian ((4 * m) + 1) (((4 * m) + 1)) Tryz.underlying22 sz5 rfl rfl rfl rfl (by omega) (by omega) (by omega) ⟨rfl, rfl⟩) (hS.sublist (.cons _ (.cons_cons _ (.cons_cons _ (.cons_cons _ (List.nil_sublist _)))))) ?_
      refine dq 9 rfl (by kernel_rfl) (by kernel_rfl) (by kernel_rfl) rfl rfl (fun w hS => lo 2 sc5 hS rfl rfl rfl rfl (BV_get _ ((4 * m) + 1) (by omega)) ⟨rfl, rfl⟩) (hS.sublist (.cons _ (.cons_cons _ (.cons_cons _ (.cons_cons _ (List.nil_sublist _)))))) ?_
      refine dq 10 rfl (by kernel_rfl) (by kernel_rfl) (by kernel_rfl) rfl rfl (fun w hS => mv rfl rfl rfl ⟨rfl, rfl⟩) (hS.sublist (.cons _ (.cons_cons _ (.cons_cons _ (.cons_cons _ (List.nil_sublist _)))))) ?_
      refine dq 11 rfl (by kernel_rfl) (by kernel_rfl) (by kernel_rfl) rfl rfl (fun w hS => muli (by omega) (by omega) rfl rfl rfl rfl ⟨rfl, rfl⟩) (hS.sublist (.cons _ (.cons_cons _ (.cons_cons _ (.cons_cons _ (List.nil_sublist _)))))) ?_
      refine dq 12 rfl (by kernel_rfl) (by kernel_rfl) (by kernel_rfl) rfl rfl (fun w hS => addi (by omega) (by omega) rfl rfl rfl rfl ⟨rfl, rfl⟩) (hS.sublist (.cons _ (.cons_cons _ (.cons_cons _ (.cons_cons _ (List.nil_sublist _)))))) ?_
      refine dq 13 rfl (by kernel_rfl) (by kernel_rfl) (by kernel_rfl) rfl rfl (fun w hS => ian ((4 * m) + 2) (((4 * m) + 2)) Tryz.underlying22 sz5 rfl rfl rfl rfl (by omega) (by omega) (by omega) ⟨rfl, rfl⟩) (hS.sublist (.cons _ (.cons_cons _ (.cons_cons _ (.cons_cons _ (List.nil_sublist _)))))) ?_
      refine dq 14 rfl (by kernel_rfl) (by kernel_rfl) (by kernel_rfl) rfl rfl (fun w hS => lo 2 sc5 hS rfl rfl rfl rfl (BV_get _ ((4 * m) + 2) (by omega)) ⟨rfl, rfl⟩) (hS.sublist (.cons _ (.cons_cons _ (.cons_cons _ (.cons_cons _ (List.nil_sublist _)))))) ?_
      refine dq 15 rfl (by kernel_rfl) (by kernel_rfl) (by kernel_rfl) rfl rfl (fun w hS => mv rfl rfl rfl ⟨rfl, rfl⟩) (hS.sublist (.cons _ (.cons_cons _ (.cons_cons _ (.cons_cons _ (List.nil_sublist _)))))) ?_
      refine dq 16 rfl (by kernel_rfl) (by kernel_rfl) (by kernel_rfl) rfl rfl (fun w hS => muli (by omega) (by omega) rfl rfl rfl rfl ⟨rfl, rfl⟩) (hS.sublist (.cons _ (.cons_cons _ (.cons_cons _ (.cons_cons _ (List.nil_sublist _)))))) ?_
      refine dq 17 rfl (by kernel_rfl) (by kernel_rfl) (by kernel_rfl) rfl rfl (fun w hS => addi (by omega) (by omega) rfl rfl rfl rfl ⟨rfl, rfl⟩) (hS.sublist (.cons _ (.cons_cons _ (.cons_cons _ (.cons_cons _ (List.nil_sublist _)))))) ?_
      refine dq 18 rfl (by kernel_rfl) (by kernel_rfl) (by kernel_rfl) rfl rfl (fun w hS => ian ((4 * m) + 3) (((4 * m) + 3)) Tryz.underlying22 sz5 rfl rfl rfl rfl (by omega) (by omega) (by omega) ⟨rfl, rfl⟩) (hS.sublist (.cons _ (.cons_cons _ (.cons_cons _ (.cons_cons _ (List.nil_sublist _)))))) ?_
      refine dq 19 rfl (by kernel_rfl) (by kernel_rfl) (by kernel_rfl) rfl rfl (fun w hS => lo 2 sc5 hS rfl rfl rfl rfl (BV_get _ ((4 * m) + 3) (by omega)) ⟨rfl, rfl⟩) (hS.sublist (.cons _ (.cons_cons _ (.cons_cons _ (.cons_cons _ (List.nil_sublist _)))))) ?_
      refine dq 20 rfl (by kernel_rfl) (by kernel_rfl) (by kernel_rfl) rfl rfl (fun w hS => bd (cs := BV (#v[gv key (4 * m), gv key ((4 * m) + 1), gv key ((4 * m) + 2), gv key ((4 * m) + 3)])) rfl rfl rfl (by kernel_rfl) ⟨rfl, rfl⟩) (hS.sublist (.cons _ (.cons_cons _ (.cons_cons _ (.cons_cons _ (List.nil_sublist _)))))) ?_
      refine dl 21 rfl (by kernel_rfl) ?_
      refine ian (m) (m * 4) Tryz.underlying117 sz107 rfl rfl rfl rfl (by omega) (by omega) (by omega) ?_
      refine ⟨fun h => (by cases h), ?_⟩
      refine dl 22 rfl (by kernel_rfl) ?_
      refine spp (cs' := BV (put8 (wdS key m) (m * 4) (#v[gv key (4 * m), gv key ((4 * m) + 1), gv key ((4 * m) + 2), gv key ((4 * m) + 3)]))) 0 ag107 hS rfl rfl rfl (BV_one _) rfl (le_sz (a := 176) (BV_size _) (by omega)) (BV_size _) (BV_put _ _ _ (by omega)) ?_
      intro w hS
      refine ⟨fun h => (by cases h), ?_⟩
      refine de (by kernel_rfl) ?_
      refine wq_then ?_
      refine wc_exit ?_
      refine q_then_exit ?_
      refine q_block_hit ?_
      refine wq_then ?_
      refine wc_region ?_
      refine mv rfl rfl rfl ?_
      refine addi (by omega) (by omega) rfl rfl rfl rfl ?_
      refine asg rfl rfl rfl ?_
      refine again_q (m + 1) ⟨rfl, rfl, rfl, rfl, lkI rfl (by first | omega | rfl), trivial⟩ ⟨by omega, (by rw [wd_lo hi4]; exact hS)⟩ (by omega)
    · skip
      try simp only [SB] at hc2
      have hi4 : ¬ m < 4 := by omega
      refine wc_skip ?_
      refine wq_then ?_
      refine rg ?_
      refine mv rfl rfl rfl ?_
      refine subi (by omega) (by omega) rfl rfl rfl rfl ?_
      refine ian (m - 1) ((m - 1) * 4) Tryz.underlying117 sz107 rfl rfl rfl rfl (by omega) (by omega) (by omega) ?_
      refine lp (u := .agg (BV (seg8 4 (wdS key m) ((m - 1) * 4)))) 0 ag107 hS rfl rfl rfl rfl (by rw [BV_size]; omega) (BV_extract 4 _ ((m - 1) * 4) (by omega)) rfl ?_
      refine ala zr107 hS rfl rfl ?_
      intro b6 w hb6 hS
      refine sa 0 ag107 hS rfl rfl rfl (BV_one _) rfl (BV_size _) (BV_size _) ?_
      intro w hS
      refine wq_then ?_
      refine wc_seq ?_
      refine rg ?_
      refine mv rfl rfl rfl ?_
      refine remi (by omega) (by omega) rfl rfl rfl rfl ?_
      refine eqi rfl rfl rfl rfl ?_
      refine wq_then ?_
      refine wc_if rfl (fun hc3 => ?_) (fun hc3 => ?_)
      · skip
        try simp only [SB] at hc3
        have h0 : m % 4 = 0 := by omega
        refine rd mo 17 (fun w => St w0 [] [(b6, .cells (BV (seg8 4 (wdS key m) ((m - 1) * 4))) 107), (b4, .cells (BV (wdS key m)) 117), (b3, .cells (BV sboxV) 46), (b2, .cells (BV (Vector.replicate 176 0)) 117), (b1, .cells (BV key) 22)] w) ?_
        have hS := hS.drew
        refine dq 0 rfl (by kernel_rfl) (by kernel_rfl) (by kernel_rfl) rfl rfl (fun w hS => ian (1) (1) Tryz.underlying107 sz5 rfl rfl rfl rfl (by omega) (by omega) (by omega) ⟨rfl, rfl⟩) hS ?_
        refine dq 1 rfl (by kernel_rfl) (by kernel_rfl) (by kernel_rfl) rfl rfl (fun w hS => lo 0 sc5 hS rfl rfl rfl rfl (BV_get _ 1 (by omega)) ⟨rfl, rfl⟩) hS ?_
        refine dq 2 rfl (by kernel_rfl) (by kernel_rfl) (by kernel_rfl) rfl rfl (fun w hS => ian ((gv (seg8 4 (wdS key m) ((m - 1) * 4)) 1).toNat) (((gv (seg8 4 (wdS key m) ((m - 1) * 4)) 1).toNat)) Tryz.underlying46 sz5 rfl rfl rfl rfl (by omega) (by have := (gv (seg8 4 (wdS key m) ((m - 1) * 4)) 1).toNat_lt; omega) (by omega) ⟨rfl, rfl⟩) hS ?_
        refine dq 3 rfl (by kernel_rfl) (by kernel_rfl) (by kernel_rfl) rfl rfl (fun w hS => lo 2 sc5 hS rfl rfl rfl rfl (BV_get _ ((gv (seg8 4 (wdS key m) ((m - 1) * 4)) 1).toNat) (by have := (gv (seg8 4 (wdS key m) ((m - 1) * 4)) 1).toNat_lt; omega)) ⟨rfl, rfl⟩) hS ?_
        refine dq 4 rfl (by kernel_rfl) (by kernel_rfl) (by kernel_rfl) rfl rfl (fun w hS => ian (2) (2) Tryz.underlying107 sz5 rfl rfl rfl rfl (by omega) (by omega) (by omega) ⟨rfl, rfl⟩) hS ?_
        refine dq 5 rfl (by kernel_rfl) (by kernel_rfl) (by kernel_rfl) rfl rfl (fun w hS => lo 0 sc5 hS rfl rfl rfl rfl (BV_get _ 2 (by omega)) ⟨rfl, rfl⟩) hS ?_
        refine dq 6 rfl (by kernel_rfl) (by kernel_rfl) (by kernel_rfl) rfl rfl (fun w hS => ian ((gv (seg8 4 (wdS key m) ((m - 1) * 4)) 2).toNat) (((gv (seg8 4 (wdS key m) ((m - 1) * 4)) 2).toNat)) Tryz.underlying46 sz5 rfl rfl rfl rfl (by omega) (by have := (gv (seg8 4 (wdS key m) ((m - 1) * 4)) 2).toNat_lt; omega) (by omega) ⟨rfl, rfl⟩) hS ?_
        refine dq 7 rfl (by kernel_rfl) (by kernel_rfl) (by kernel_rfl) rfl rfl (fun w hS => lo 2 sc5 hS rfl rfl rfl rfl (BV_get _ ((gv (seg8 4 (wdS key m) ((m - 1) * 4)) 2).toNat) (by have := (gv (seg8 4 (wdS key m) ((m - 1) * 4)) 2).toNat_lt; omega)) ⟨rfl, rfl⟩) hS ?_
        refine dq 8 rfl (by kernel_rfl) (by kernel_rfl) (by kernel_rfl) rfl rfl (fun w hS => ian (3) (3) Tryz.underlying107 sz5 rfl rfl rfl rfl (by omega) (by omega) (by omega) ⟨rfl, rfl⟩) hS ?_
        refine dq 9 rfl (by kernel_rfl) (by kernel_rfl) (by kernel_rfl) rfl rfl (fun w hS => lo 0 sc5 hS rfl rfl rfl rfl (BV_get _ 3 (by omega)) ⟨rfl, rfl⟩) hS ?_
        refine dq 10 rfl (by kernel_rfl) (by kernel_rfl) (by kernel_rfl) rfl rfl (fun w hS => ian ((gv (seg8 4 (wdS key m) ((m - 1) * 4)) 3).toNat) (((gv (seg8 4 (wdS key m) ((m - 1) * 4)) 3).toNat)) Tryz.underlying46 sz5 rfl rfl rfl rfl (by omega) (by have := (gv (seg8 4 (wdS key m) ((m - 1) * 4)) 3).toNat_lt; omega) (by omega) ⟨rfl, rfl⟩) hS ?_
        refine dq 11 rfl (by kernel_rfl) (by kernel_rfl) (by kernel_rfl) rfl rfl (fun w hS => lo 2 sc5 hS rfl rfl rfl rfl (BV_get _ ((gv (seg8 4 (wdS key m) ((m - 1) * 4)) 3).toNat) (by have := (gv (seg8 4 (wdS key m) ((m - 1) * 4)) 3).toNat_lt; omega)) ⟨rfl, rfl⟩) hS ?_
        refine dq 12 rfl (by kernel_rfl) (by kernel_rfl) (by kernel_rfl) rfl rfl (fun w hS => ian (0) (0) Tryz.underlying107 sz5 rfl rfl rfl rfl (by omega) (by omega) (by omega) ⟨rfl, rfl⟩) hS ?_
        refine dq 13 rfl (by kernel_rfl) (by kernel_rfl) (by kernel_rfl) rfl rfl (fun w hS => lo 0 sc5 hS rfl rfl rfl rfl (BV_get _ 0 (by omega)) ⟨rfl, rfl⟩) hS ?_
        refine dq 14 rfl (by kernel_rfl) (by kernel_rfl) (by kernel_rfl) rfl rfl (fun w hS => ian ((gv (seg8 4 (wdS key m) ((m - 1) * 4)) 0).toNat) (((gv (seg8 4 (wdS key m) ((m - 1) * 4)) 0).toNat)) Tryz.underlying46 sz5 rfl rfl rfl rfl (by omega) (by have := (gv (seg8 4 (wdS key m) ((m - 1) * 4)) 0).toNat_lt; omega) (by omega) ⟨rfl, rfl⟩) hS ?_
        refine dq 15 rfl (by kernel_rfl) (by kernel_rfl) (by kernel_rfl) rfl rfl (fun w hS => lo 2 sc5 hS rfl rfl rfl rfl (BV_get _ ((gv (seg8 4 (wdS key m) ((m - 1) * 4)) 0).toNat) (by have := (gv (seg8 4 (wdS key m) ((m - 1) * 4)) 0).toNat_lt; omega)) ⟨rfl, rfl⟩) hS ?_
        refine dq 16 rfl (by kernel_rfl) (by kernel_rfl) (by kernel_rfl) rfl rfl (fun w hS => bd (cs := BV (#v[gv sboxV ((gv (seg8 4 (wdS key m) ((m - 1) * 4)) 1).toNat), gv sboxV ((gv (seg8 4 (wdS key m) ((m - 1) * 4)) 2).toNat), gv sboxV ((gv (seg8 4 (wdS key m) ((m - 1) * 4)) 3).toNat), gv sboxV ((gv (seg8 4 (wdS key m) ((m - 1) * 4)) 0).toNat)])) rfl rfl rfl (by kernel_rfl) ⟨rfl, rfl⟩) hS ?_
        refine dl 17 rfl (by kernel_rfl) ?_
        refine sa 0 ag107 hS rfl rfl rfl (BV_one _) rfl (BV_size _) (BV_size _) ?_
        intro w hS
        refine ⟨fun h => (by cases h), ?_⟩
        refine de (by kernel_rfl) ?_
        refine wq_then ?_
        refine wc_draw mo 7 (fun w => St w0 [] [(b6, .cells (BV (#v[gv sboxV ((gv (seg8 4 (wdS key m) ((m - 1) * 4)) 1).toNat), gv sboxV ((gv (seg8 4 (wdS key m) ((m - 1) * 4)) 2).toNat), gv sboxV ((gv (seg8 4 (wdS key m) ((m - 1) * 4)) 3).toNat), gv sboxV ((gv (seg8 4 (wdS key m) ((m - 1) * 4)) 0).toNat)])) 107), (b4, .cells (BV (wdS key m)) 117), (b3, .cells (BV sboxV) 46), (b2, .cells (BV (Vector.replicate 176 0)) 117), (b1, .cells (BV key) 22)] w) ?_
        have hS := hS.drew
        refine dq 0 rfl (by kernel_rfl) (by kernel_rfl) (by kernel_rfl) rfl rfl (fun w hS => ian (0) (0) Tryz.underlying107 sz5 rfl rfl rfl rfl (by omega) (by omega) (by omega) ⟨rfl, rfl⟩) hS ?_
        refine dq 1 rfl (by kernel_rfl) (by kernel_rfl) (by kernel_rfl) rfl rfl (fun w hS => lo 0 sc5 hS rfl rfl rfl rfl (BV_get _ 0 (by omega)) ⟨rfl, rfl⟩) hS ?_
        refine dq 2 rfl (by kernel_rfl) (by kernel_rfl) (by kernel_rfl) rfl rfl (fun w hS => mv rfl rfl rfl ⟨rfl, rfl⟩) hS ?_
        refine dq 3 rfl (by kernel_rfl) (by kernel_rfl) (by kernel_rfl) rfl rfl (fun w hS => quoi (by omega) (by omega) (by omega) rfl rfl rfl rfl ⟨rfl, rfl⟩) hS ?_
        refine dq 4 rfl (by kernel_rfl) (by kernel_rfl) (by kernel_rfl) rfl rfl (fun w hS => subi (by omega) (by omega) rfl rfl rfl rfl ⟨rfl, rfl⟩) hS ?_
        refine dl 5 rfl (by kernel_rfl) ?_
        refine cv cf99 hS rfl rfl rfl rfl rfl (sp_mooringref03_Power (2) (((m / 4) - 1)) _ _ (by omega) (by omega)) ?_
        intro w hS
        refine ⟨fun _ => hS, ?_⟩
        refine dq 6 rfl (by kernel_rfl) (by kernel_rfl) (by kernel_rfl) rfl rfl (fun w hS => xor8 rfl rfl rfl rfl ⟨rfl, rfl⟩) hS ?_
        refine dl 7 rfl (by kernel_rfl) ?_
        refine ian (0) (0) Tryz.underlying107 sz5 rfl rfl rfl rfl (by omega) (by omega) (by omega) ?_
        refine ⟨fun h => (by cases h), ?_⟩
        refine dl 8 rfl (by kernel_rfl) ?_
        refine st 0 sz5 hS rfl rfl rfl rfl rfl rfl (by rw [BV_size]; omega) (BV_set _ _ ((gv (#v[gv sboxV ((gv (seg8 4 (wdS key m) ((m - 1) * 4)) 1).toNat), gv sboxV ((gv (seg8 4 (wdS key m) ((m - 1) * 4)) 2).toNat), gv sboxV ((gv (seg8 4 (wdS key m) ((m - 1) * 4)) 3).toNat), gv sboxV ((gv (seg8 4 (wdS key m) ((m - 1) * 4)) 0).toNat)]) 0) ^^^ (pwR 2 ((m / 4) - 1)) : UInt8)) ?_
        intro w hS
        refine ⟨fun h => (by cases h), ?_⟩
        refine de (by kernel_rfl) ?_
        refine wq_then ?_
        refine rg ?_
        refine asg rfl rfl rfl ?_
        refine wq_then ?_
        refine wc_block ?_
        refine wc_loop (σ := Nat) (fun k => [(1, Ptr b1 0), (2, Ptr b2 0), (3, Ptr b3 0), (4, Ptr b4 0), (5, I ((m : Int))), (6, Ptr b6 0), (7, I ((k : Int)))])
          (fun k w => (k ≤ 4) ∧ St w0 [] [(b6, .cells (BV ((#v[gv sboxV ((gv (seg8 4 (wdS key m) ((m - 1) * 4)) 1).toNat), gv sboxV ((gv (seg8 4 (wdS key m) ((m - 1) * 4)) 2).toNat), gv sboxV ((gv (seg8 4 (wdS key m) ((m - 1) * 4)) 3).toNat), gv sboxV ((gv (seg8 4 (wdS key m) ((m - 1) * 4)) 0).toNat)]).setIfInBounds 0 ((gv (#v[gv sboxV ((gv (seg8 4 (wdS key m) ((m - 1) * 4)) 1).toNat), gv sboxV ((gv (seg8 4 (wdS key m) ((m - 1) * 4)) 2).toNat), gv sboxV ((gv (seg8 4 (wdS key m) ((m - 1) * 4)) 3).toNat), gv sboxV ((gv (seg8 4 (wdS key m) ((m - 1) * 4)) 0).toNat)]) 0) ^^^ (pwR 2 ((m / 4) - 1))))) 107), (b4, .cells (BV (wdIn (wdS key m) ((#v[gv sboxV ((gv (seg8 4 (wdS key m) ((m - 1) * 4)) 1).toNat), gv sboxV ((gv (seg8 4 (wdS key m) ((m - 1) * 4)) 2).toNat), gv sboxV ((gv (seg8 4 (wdS key m) ((m - 1) * 4)) 3).toNat), gv sboxV ((gv (seg8 4 (wdS key m) ((m - 1) * 4)) 0).toNat)]).setIfInBounds 0 ((gv (#v[gv sboxV ((gv (seg8 4 (wdS key m) ((m - 1) * 4)) 1).toNat), gv sboxV ((gv (seg8 4 (wdS key m) ((m - 1) * 4)) 2).toNat), gv sboxV ((gv (seg8 4 (wdS key m) ((m - 1) * 4)) 3).toNat), gv sboxV ((gv (seg8 4 (wdS key m) ((m - 1) * 4)) 0).toNat)]) 0) ^^^ (pwR 2 ((m / 4) - 1)))) m k)) 117), (b3, .cells (BV sboxV) 46), (b2, .cells (BV (Vector.replicate 176 0)) 117), (b1, .cells (BV key) 22)] w) (fun k => 4 - k) 0 ⟨rfl, rfl, rfl, rfl, rfl, rfl, rfl, trivial⟩ ⟨by omega, hS⟩ ?_
        rintro k w ⟨hk, hS⟩
        refine wc_seq ?_
        refine rg ?_
        refine mv rfl rfl rfl ?_
        refine lss rfl rfl rfl rfl ?_
        refine wq_then ?_
        refine wc_if rfl (fun hc4 => ?_) (fun hc4 => ?_)
        · skip
          try simp only [SB] at hc4
          refine wc_skip ?_
          refine wq_then ?_
          refine wc_seq ?_
          refine wc_block ?_
          refine wc_draw mo 15 (fun w => St w0 [] [(b6, .cells (BV ((#v[gv sboxV ((gv (seg8 4 (wdS key m) ((m - 1) * 4)) 1).toNat), gv sboxV ((gv (seg8 4 (wdS key m) ((m - 1) * 4)) 2).toNat), gv sboxV ((gv (seg8 4 (wdS key m) ((m - 1) * 4)) 3).toNat), gv sboxV ((gv (seg8 4 (wdS key m) ((m - 1) * 4)) 0).toNat)]).setIfInBounds 0 ((gv (#v[gv sboxV ((gv (seg8 4 (wdS key m) ((m - 1) * 4)) 1).toNat), gv sboxV ((gv (seg8 4 (wdS key m) ((m - 1) * 4)) 2).toNat), gv sboxV ((gv (seg8 4 (wdS key m) ((m - 1) * 4)) 3).toNat), gv sboxV ((gv (seg8 4 (wdS key m) ((m - 1) * 4)) 0).toNat)]) 0) ^^^ (pwR 2 ((m / 4) - 1))))) 107), (b3, .cells (BV sboxV) 46), (b2, .cells (BV (Vector.replicate 176 0)) 117), (b1, .cells (BV key) 22)] w) ?_
          have hS := hS.drew
          refine dq 0 rfl (by kernel_rfl) (by kernel_rfl) (by kernel_rfl) rfl rfl (fun w hS => mv rfl rfl rfl ⟨rfl, rfl⟩) (hS.sublist (.cons_cons _ (.cons _ (.cons_cons _ (.cons_cons _ (.cons_cons _ (List.nil_sublist _))))))) ?_
          refine dq 1 rfl (by kernel_rfl) (by kernel_rfl) (by kernel_rfl) rfl rfl (fun w hS => mv rfl rfl rfl ⟨rfl, rfl⟩) (hS.sublist (.cons_cons _ (.cons _ (.cons_cons _ (.cons_cons _ (.cons_cons _ (List.nil_sublist _))))))) ?_
          refine dq 2 rfl (by kernel_rfl) (by kernel_rfl) (by kernel_rfl) rfl rfl (fun w hS => mv rfl rfl rfl ⟨rfl, rfl⟩) (hS.sublist (.cons_cons _ (.cons _ (.cons_cons _ (.cons_cons _ (.cons_cons _ (List.nil_sublist _))))))) ?_
          refine dq 3 rfl (by kernel_rfl) (by kernel_rfl) (by kernel_rfl) rfl rfl (fun w hS => subi (by omega) (by omega) rfl rfl rfl rfl ⟨rfl, rfl⟩) (hS.sublist (.cons_cons _ (.cons _ (.cons_cons _ (.cons_cons _ (.cons_cons _ (List.nil_sublist _))))))) ?_
          refine dq 4 rfl (by kernel_rfl) (by kernel_rfl) (by kernel_rfl) rfl rfl (fun w hS => mv rfl rfl rfl ⟨rfl, rfl⟩) (hS.sublist (.cons_cons _ (.cons _ (.cons_cons _ (.cons_cons _ (.cons_cons _ (List.nil_sublist _))))))) ?_
          refine dq 5 rfl (by kernel_rfl) (by kernel_rfl) (by kernel_rfl) rfl rfl (fun w hS => ian (m - 4) ((m - 4) * 4) Tryz.underlying117 sz107 rfl rfl rfl rfl (by omega) (by omega) (by omega) ⟨rfl, rfl⟩) (hS.sublist (.cons_cons _ (.cons _ (.cons_cons _ (.cons_cons _ (.cons_cons _ (List.nil_sublist _))))))) ?_
          refine dq 6 rfl (by kernel_rfl) (by kernel_rfl) (by kernel_rfl) rfl rfl (fun w hS => ian (k) ((m - 4) * 4 + k) Tryz.underlying107 sz5 rfl rfl rfl rfl (by omega) (by omega) (by omega) ⟨rfl, rfl⟩) (hS.sublist (.cons_cons _ (.cons _ (.cons_cons _ (.cons_cons _ (.cons_cons _ (List.nil_sublist _))))))) ?_
          refine dq 8 rfl (by kernel_rfl) (by kernel_rfl) (by kernel_rfl) rfl rfl (fun w hS => mv rfl rfl rfl ⟨rfl, rfl⟩) (hS.sublist (.cons_cons _ (.cons _ (.cons_cons _ (.cons_cons _ (.cons_cons _ (List.nil_sublist _))))))) ?_
          refine dq 9 rfl (by kernel_rfl) (by kernel_rfl) (by kernel_rfl) rfl rfl (fun w hS => ian (k) (k) Tryz.underlying107 sz5 rfl rfl rfl rfl (by omega) (by omega) (by omega) ⟨rfl, rfl⟩) (hS.sublist (.cons_cons _ (.cons _ (.cons_cons _ (.cons_cons _ (.cons_cons _ (List.nil_sublist _))))))) ?_
          refine dq 10 rfl (by kernel_rfl) (by kernel_rfl) (by kernel_rfl) rfl rfl (fun w hS => lo 0 sc5 hS rfl rfl rfl rfl (BV_get _ k (by omega)) ⟨rfl, rfl⟩) (hS.sublist (.cons_cons _ (.cons _ (.cons_cons _ (.cons_cons _ (.cons_cons _ (List.nil_sublist _))))))) ?_
          refine dq 12 rfl (by kernel_rfl) (by kernel_rfl) (by kernel_rfl) rfl rfl (fun w hS => ian (m) (m * 4) Tryz.underlying117 sz107 rfl rfl rfl rfl (by omega) (by omega) (by omega) ⟨rfl, rfl⟩) (hS.sublist (.cons_cons _ (.cons _ (.cons_cons _ (.cons_cons _ (.cons_cons _ (List.nil_sublist _))))))) ?_
          refine dl 7 rfl (by kernel_rfl) ?_
          refine lo 1 sc5 hS rfl rfl rfl rfl (BV_get _ ((m - 4) * 4 + k) (by omega)) ?_
          refine ⟨fun _ => (hS.sublist (.cons_cons _ (.cons _ (.cons_cons _ (.cons_cons _ (.cons_cons _ (List.nil_sublist _))))))), ?_⟩
          refine dq 11 rfl (by kernel_rfl) (by kernel_rfl) (by kernel_rfl) rfl rfl (fun w hS => xor8 rfl rfl rfl rfl ⟨rfl, rfl⟩) (hS.sublist (.cons_cons _ (.cons _ (.cons_cons _ (.cons_cons _ (.cons_cons _ (List.nil_sublist _))))))) ?_
          refine dq 13 rfl (by kernel_rfl) (by kernel_rfl) (by kernel_rfl) rfl rfl (fun w hS => ian (k) (m * 4 + k) Tryz.underlying107 sz5 rfl rfl rfl rfl (by omega) (by omega) (by omega) ⟨rfl, rfl⟩) (hS.sublist (.cons_cons _ (.cons _ (.cons_cons _ (.cons_cons _ (.cons_cons _ (List.nil_sublist _))))))) ?_
          refine dl 14 rfl (by kernel_rfl) ?_
          refine st 1 sz5 hS rfl rfl rfl rfl rfl rfl (by rw [BV_size]; omega) (BV_set _ _ ((gv (wdIn (wdS key m) ((#v[gv sboxV ((gv (seg8 4 (wdS key m) ((m - 1) * 4)) 1).toNat), gv sboxV ((gv (seg8 4 (wdS key m) ((m - 1) * 4)) 2).toNat), gv sboxV ((gv (seg8 4 (wdS key m) ((m - 1) * 4)) 3).toNat), gv sboxV ((gv (seg8 4 (wdS key m) ((m - 1) * 4)) 0).toNat)]).setIfInBounds 0 ((gv (#v[gv sboxV ((gv (seg8 4 (wdS key m) ((m - 1) * 4)) 1).toNat), gv sboxV ((gv (seg8 4 (wdS key m) ((m - 1) * 4)) 2).toNat), gv sboxV ((gv (seg8 4 (wdS key m) ((m - 1) * 4)) 3).toNat), gv sboxV ((gv (seg8 4 (wdS key m) ((m - 1) * 4)) 0).toNat)]) 0) ^^^ (pwR 2 ((m / 4) - 1)))) m k) ((m - 4) * 4 + k)) ^^^ (gv ((#v[gv sboxV ((gv (seg8 4 (wdS key m) ((m - 1) * 4)) 1).toNat), gv sboxV ((gv (seg8 4 (wdS key m) ((m - 1) * 4)) 2).toNat), gv sboxV ((gv (seg8 4 (wdS key m) ((m - 1) * 4)) 3).toNat), gv sboxV ((gv (seg8 4 (wdS key m) ((m - 1) * 4)) 0).toNat)]).setIfInBounds 0 ((gv (#v[gv sboxV ((gv (seg8 4 (wdS key m) ((m - 1) * 4)) 1).toNat), gv sboxV ((gv (seg8 4 (wdS key m) ((m - 1) * 4)) 2).toNat), gv sboxV ((gv (seg8 4 (wdS key m) ((m - 1) * 4)) 3).toNat), gv sboxV ((gv (seg8 4 (wdS key m) ((m - 1) * 4)) 0).toNat)]) 0) ^^^ (pwR 2 ((m / 4) - 1)))) k) : UInt8)) ?_
          intro w hS
          refine ⟨fun _ => (hS.sublist (.cons_cons _ (.cons _ (.cons_cons _ (.cons_cons _ (.cons_cons _ (List.nil_sublist _))))))), ?_⟩
          refine de (by kernel_rfl) ?_
          refine q_block_norm ?_
          refine wq_then ?_
          refine wc_region ?_
          refine mv rfl rfl rfl ?_
          refine addi (by omega) (by omega) rfl rfl rfl rfl ?_
          refine asg rfl rfl rfl ?_
          refine again_q (k + 1) ⟨rfl, rfl, rfl, rfl, rfl, rfl, lkI rfl (by first | omega | rfl), trivial⟩ ⟨by omega, hS⟩ (by omega)
        · skip
          try simp only [SB] at hc4
          have hk4 : k = 4 := by omega
          rw [hk4] at hS
          refine wc_exit ?_
          refine q_then_exit ?_
          refine q_then_exit ?_
          refine q_block_hit ?_
          refine q_block_norm ?_
          refine wq_then ?_
          refine wc_region ?_
          refine mv rfl rfl rfl ?_
          refine addi (by omega) (by omega) rfl rfl rfl rfl ?_
          refine asg rfl rfl rfl ?_
          refine again_q (m + 1) ⟨rfl, rfl, rfl, rfl, lkI rfl (by first | omega | rfl), trivial⟩ ⟨by omega, (by rw [wd_0 hi4 h0]; exact hS.tl)⟩ (by omega)
      · skip
        try simp only [SB] at hc3
        have h0 : ¬ m % 4 = 0 := by omega
        refine wc_skip ?_
        refine wq_then ?_
        refine rg ?_
        refine asg rfl rfl rfl ?_
        refine wq_then ?_
        refine wc_block ?_
        refine wc_loop (σ := Nat) (fun k => [(1, Ptr b1 0), (2, Ptr b2 0), (3, Ptr b3 0), (4, Ptr b4 0), (5, I ((m : Int))), (6, Ptr b6 0), (7, I ((k : Int)))])
          (fun k w => (k ≤ 4) ∧ St w0 [] [(b6, .cells (BV (seg8 4 (wdS key m) ((m - 1) * 4))) 107), (b4, .cells (BV (wdIn (wdS key m) (seg8 4 (wdS key m) ((m - 1) * 4)) m k)) 117), (b3, .cells (BV sboxV) 46), (b2, .cells (BV (Vector.replicate 176 0)) 117), (b1, .cells (BV key) 22)] w) (fun k => 4 - k) 0 ⟨rfl, rfl, rfl, rfl, rfl, rfl, rfl, trivial⟩ ⟨by omega, hS⟩ ?_
        rintro k w ⟨hk, hS⟩
        refine wc_seq ?_
        refine rg ?_
        refine mv rfl rfl rfl ?_
        refine lss rfl rfl rfl rfl ?_
        refine wq_then ?_
        refine wc_if rfl (fun hc5 => ?_) (fun hc5 => ?_)
        · skip
          try simp only [SB] at hc5
          refine wc_skip ?_
          refine wq_then ?_
          refine wc_seq ?_
          refine wc_block ?_
          refine wc_draw mo 15 (fun w => St w0 [] [(b6, .cells (BV (seg8 4 (wdS key m) ((m - 1) * 4))) 107), (b3, .cells (BV sboxV) 46), (b2, .cells (BV (Vector.replicate 176 0)) 117), (b1, .cells (BV key) 22)] w) ?_
          have hS := hS.drew
          refine dq 0 rfl (by kernel_rfl) (by kernel_rfl) (by kernel_rfl) rfl rfl (fun w hS => mv rfl rfl rfl ⟨rfl, rfl⟩) (hS.sublist (.cons_cons _ (.cons _ (.cons_cons _ (.cons_cons _ (.cons_cons _ (List.nil_sublist _))))))) ?_
          refine dq 1 rfl (by kernel_rfl) (by kernel_rfl) (by kernel_rfl) rfl rfl (fun w hS => mv rfl rfl rfl ⟨rfl, rfl⟩) (hS.sublist (.cons_cons _ (.cons _ (.cons_cons _ (.cons_cons _ (.cons_cons _ (List.nil_sublist _))))))) ?_
          refine dq 2 rfl (by kernel_rfl) (by kernel_rfl) (by kernel_rfl) rfl rfl (fun w hS => mv rfl rfl rfl ⟨rfl, rfl⟩) (hS.sublist (.cons_cons _ (.cons _ (.cons_cons _ (.cons_cons _ (.cons_cons _ (List.nil_sublist _))))))) ?_
          refine dq 3 rfl (by kernel_rfl) (by kernel_rfl) (by kernel_rfl) rfl rfl (fun w hS => subi (by omega) (by omega) rfl rfl rfl rfl ⟨rfl, rfl⟩) (hS.sublist (.cons_cons _ (.cons _ (.cons_cons _ (.cons_cons _ (.cons_cons _ (List.nil_sublist _))))))) ?_
          refine dq 4 rfl (by kernel_rfl) (by kernel_rfl) (by kernel_rfl) rfl rfl (fun w hS => mv rfl rfl rfl ⟨rfl, rfl⟩) (hS.sublist (.cons_cons _ (.cons _ (.cons_cons _ (.cons_cons _ (.cons_cons _ (List.nil_sublist _))))))) ?_
          refine dq 5 rfl (by kernel_rfl) (by kernel_rfl) (by kernel_rfl) rfl rfl (fun w hS => ian (m - 4) ((m - 4) * 4) Tryz.underlying117 sz107 rfl rfl rfl rfl (by omega) (by omega) (by omega) ⟨rfl, rfl⟩) (hS.sublist (.cons_cons _ (.cons _ (.cons_cons _ (.cons_cons _ (.cons_cons _ (List.nil_sublist _))))))) ?_
          refine dq 6 rfl (by kernel_rfl) (by kernel_rfl) (by kernel_rfl) rfl rfl (fun w hS => ian (k) ((m - 4) * 4 + k) Tryz.underlying107 sz5 rfl rfl rfl rfl (by omega) (by omega) (by omega) ⟨rfl, rfl⟩) (hS.sublist (.cons_cons _ (.cons _ (.cons_cons _ (.cons_cons _ (.cons_cons _ (List.nil_sublist _))))))) ?_
          refine dq 8 rfl (by kernel_rfl) (by kernel_rfl) (by kernel_rfl) rfl rfl (fun w hS => mv rfl rfl rfl ⟨rfl, rfl⟩) (hS.sublist (.cons_cons _ (.cons _ (.cons_cons _ (.cons_cons _ (.cons_cons _ (List.nil_sublist _))))))) ?_
          refine dq 9 rfl (by kernel_rfl) (by kernel_rfl) (by kernel_rfl) rfl rfl (fun w hS => ian (k) (k) Tryz.underlying107 sz5 rfl rfl rfl rfl (by omega) (by omega) (by omega) ⟨rfl, rfl⟩) (hS.sublist (.cons_cons _ (.cons _ (.cons_cons _ (.cons_cons _ (.cons_cons _ (List.nil_sublist _))))))) ?_
          refine dq 10 rfl (by kernel_rfl) (by kernel_rfl) (by kernel_rfl) rfl rfl (fun w hS => lo 0 sc5 hS rfl rfl rfl rfl (BV_get _ k (by omega)) ⟨rfl, rfl⟩) (hS.sublist (.cons_cons _ (.cons _ (.cons_cons _ (.cons_cons _ (.cons_cons _ (List.nil_sublist _))))))) ?_
          refine dq 12 rfl (by kernel_rfl) (by kernel_rfl) (by kernel_rfl) rfl rfl (fun w hS => ian (m) (m * 4) Tryz.underlying117 sz107 rfl rfl rfl rfl (by omega) (by omega) (by omega) ⟨rfl, rfl⟩) (hS.sublist (.cons_cons _ (.cons _ (.cons_cons _ (.cons_cons _ (.cons_cons _ (List.nil_sublist _))))))) ?_
          refine dl 7 rfl (by kernel_rfl) ?_
          refine lo 1 sc5 hS rfl rfl rfl rfl (BV_get _ ((m - 4) * 4 + k) (by omega)) ?_
          refine ⟨fun _ => (hS.sublist (.cons_cons _ (.cons _ (.cons_cons _ (.cons_cons _ (.cons_cons _ (List.nil_sublist _))))))), ?_⟩
          refine dq 11 rfl (by kernel_rfl) (by kernel_rfl) (by kernel_rfl) rfl rfl (fun w hS => xor8 rfl rfl rfl rfl ⟨rfl, rfl⟩) (hS.sublist (.cons_cons _ (.cons _ (.cons_cons _ (.cons_cons _ (.cons_cons _ (List.nil_sublist _))))))) ?_
          refine dq 13 rfl (by kernel_rfl) (by kernel_rfl) (by kernel_rfl) rfl rfl (fun w hS => ian (k) (m * 4 + k) Tryz.underlying107 sz5 rfl rfl rfl rfl (by omega) (by omega) (by omega) ⟨rfl, rfl⟩) (hS.sublist (.cons_cons _ (.cons _ (.cons_cons _ (.cons_cons _ (.cons_cons _ (List.nil_sublist _))))))) ?_
          refine dl 14 rfl (by kernel_rfl) ?_
          refine st 1 sz5 hS rfl rfl rfl rfl rfl rfl (by rw [BV_size]; omega) (BV_set _ _ ((gv (wdIn (wdS key m) (seg8 4 (wdS key m) ((m - 1) * 4)) m k) ((m - 4) * 4 + k)) ^^^ (gv (seg8 4 (wdS key m) ((m - 1) * 4)) k) : UInt8)) ?_
          intro w hS
          refine ⟨fun _ => (hS.sublist (.cons_cons _ (.cons _ (.cons_cons _ (.cons_cons _ (.cons_cons _ (List.nil_sublist _))))))), ?_⟩
          refine de (by kernel_rfl) ?_
          refine q_block_norm ?_
          refine wq_then ?_
          refine wc_region ?_
          refine mv rfl rfl rfl ?_
          refine addi (by omega) (by omega) rfl rfl rfl rfl ?_
          refine asg rfl rfl rfl ?_
          refine again_q (k + 1) ⟨rfl, rfl, rfl, rfl, rfl, rfl, lkI rfl (by first | omega | rfl), trivial⟩ ⟨by omega, hS⟩ (by omega)
        · skip
          try simp only [SB] at hc5
          have hk4 : k = 4 := by omega
          rw [hk4] at hS
          refine wc_exit ?_
          refine q_then_exit ?_
          refine q_then_exit ?_
          refine q_block_hit ?_
          refine q_block_norm ?_
          refine wq_then ?_
          refine wc_region ?_
          refine mv rfl rfl rfl ?_
          refine addi (by omega) (by omega) rfl rfl rfl rfl ?_
          refine asg rfl rfl rfl ?_
          refine again_q (m + 1) ⟨rfl, rfl, rfl, rfl, lkI rfl (by first | omega | rfl), trivial⟩ ⟨by omega, (by rw [wd_1 hi4 h0]; exact hS.tl)⟩ (by omega)
  · skip
    try simp only [SB] at hc1
    refine wc_exit ?_
    refine q_then_exit ?_
    refine q_then_exit ?_
    refine q_block_hit ?_
    refine wq_then ?_
    refine rg ?_
    refine la 0 ag117 hS rfl rfl rfl rfl (BV_size _) ?_
    refine sa 2 ag117 hS rfl rfl rfl (BV_one _) rfl (BV_size _) (BV_size _) ?_
    intro w hS
    refine wq_then ?_
    refine wc_ret ?_
    refine fin1 (v := .agg (BV (wdS key m))) rfl ⟨_, rfl, lv_a ag117 (hS.get 2 rfl) (BV_size _)⟩ ?_
    refine ⟨?_, hS.drop⟩
    have hk5 : m = 44 := by omega
    rw [hk5]
end Go.Proofs.XZ

/- walks -/
namespace Go.Proofs.XZ
open Go Go.X Go.Proofs
set_option maxRecDepth 100000 in
theorem sp_mooringref05_Expand (key : V8 16) (w0 : World) : Calls Tryz.prog 40 #[.agg (BV key)] w0 (Ret w0 (.agg (BV (expand key)))) := by
  refine enter (args := [.agg (BV key)]) Tryz.func40 rfl rfl ?_
  refine startw fun w hS => ?_
  refine rg ?_
  refine bxa hS rfl rfl rfl ?_
  intro b1 w hb1 hS
  refine ala zr45 hS rfl rfl ?_
  intro b2 w hb2 hS
  refine wq_then ?_
  refine rg ?_
  refine la 1 ag22 hS rfl rfl rfl rfl (BV_size _) ?_
  refine cv cf62 hS rfl rfl rfl rfl rfl (sp_mooringref05_Words (key) _) ?_
  intro w hS
  refine ala zr117 hS rfl rfl ?_
  intro b3 w hb3 hS
  refine sa 0 ag117 hS rfl rfl rfl (BV_one _) rfl (BV_size _) (BV_size _) ?_
  intro w hS
  refine wq_then ?_
  refine rg ?_
  refine ala zr45 hS rfl rfl ?_
  intro b4 w hb4 hS
  refine wq_then ?_
  refine wc_seq ?_
  refine rg ?_
  refine asg rfl rfl rfl ?_
  refine wq_then ?_
  refine wc_block ?_
  refine wc_loop (σ := Nat) (fun k => [(2, Ptr b2 0), (3, Ptr b3 0), (4, Ptr b4 0), (5, I ((k : Int)))])
    (fun k w => (k ≤ 176) ∧ St w0 [] [(b4, .cells (BV (fill8 176 (gv (wdS key 44)) (Vector.replicate 176 0) k)) 45), (b3, .cells (BV (wdS key 44)) 117), (b2, .cells (BV (Vector.replicate 176 0)) 45), (b1, .cells (BV key) 22)] w) (fun k => 176 - k) 0 ⟨rfl, rfl, rfl, rfl, trivial⟩ ⟨by omega, (by simp only [Nat.zero_mul, Nat.add_zero, fill8_0, fill32_0]; exact hS)⟩ ?_
  rintro k w ⟨hk, hS⟩
  refine wc_seq ?_
  refine rg ?_
  refine mv rfl rfl rfl ?_
  refine lss rfl rfl rfl rfl ?_
  refine wq_then ?_
  refine wc_if rfl (fun hc1 => ?_) (fun hc1 => ?_)
  · skip
    try simp only [SB] at hc1
    refine wc_skip ?_
    refine wq_then ?_
    refine wc_seq ?_
    refine wc_block ?_
    refine wc_draw mo 14 (fun w => St w0 [] [(b3, .cells (BV (wdS key 44)) 117), (b2, .cells (BV (Vector.replicate 176 0)) 45), (b1, .cells (BV key) 22)] w) ?_
    have hS := hS.drew
    refine dq 0 rfl (by kernel_rfl) (by kernel_rfl) (by kernel_rfl) rfl rfl (fun w hS => mv rfl rfl rfl ⟨rfl, rfl⟩) (hS.sublist (.cons _ (.cons_cons _ (.cons_cons _ (.cons_cons _ (List.nil_sublist _)))))) ?_
    refine dq 1 rfl (by kernel_rfl) (by kernel_rfl) (by kernel_rfl) rfl rfl (fun w hS => quoi (by omega) (by omega) (by omega) rfl rfl rfl rfl ⟨rfl, rfl⟩) (hS.sublist (.cons _ (.cons_cons _ (.cons_cons _ (.cons_cons _ (List.nil_sublist _)))))) ?_
    refine dq 2 rfl (by kernel_rfl) (by kernel_rfl) (by kernel_rfl) rfl rfl (fun w hS => mv rfl rfl rfl ⟨rfl, rfl⟩) (hS.sublist (.cons _ (.cons_cons _ (.cons_cons _ (.cons_cons _ (List.nil_sublist _)))))) ?_
    refine dq 3 rfl (by kernel_rfl) (by kernel_rfl) (by kernel_rfl) rfl rfl (fun w hS => remi (by omega) (by omega) rfl rfl rfl rfl ⟨rfl, rfl⟩) (hS.sublist (.cons _ (.cons_cons _ (.cons_cons _ (.cons_cons _ (List.nil_sublist _)))))) ?_
    refine dq 4 rfl (by kernel_rfl) (by kernel_rfl) (by kernel_rfl) rfl rfl (fun w hS => mv rfl rfl rfl ⟨rfl, rfl⟩) (hS.sublist (.cons _ (.cons_cons _ (.cons_cons _ (.cons_cons _ (List.nil_sublist _)))))) ?_
    refine dq 5 rfl (by kernel_rfl) (by kernel_rfl) (by kernel_rfl) rfl rfl (fun w hS => quoi (by omega) (by omega) (by omega) rfl rfl rfl rfl ⟨rfl, rfl⟩) (hS.sublist (.cons _ (.cons_cons _ (.cons_cons _ (.cons_cons _ (List.nil_sublist _)))))) ?_
    refine dq 6 rfl (by kernel_rfl) (by kernel_rfl) (by kernel_rfl) rfl rfl (fun w hS => mv rfl rfl rfl ⟨rfl, rfl⟩) (hS.sublist (.cons _ (.cons_cons _ (.cons_cons _ (.cons_cons _ (List.nil_sublist _)))))) ?_
    refine dq 7 rfl (by kernel_rfl) (by kernel_rfl) (by kernel_rfl) rfl rfl (fun w hS => remi (by omega) (by omega) rfl rfl rfl rfl ⟨rfl, rfl⟩) (hS.sublist (.cons _ (.cons_cons _ (.cons_cons _ (.cons_cons _ (List.nil_sublist _)))))) ?_
    refine dq 8 rfl (by kernel_rfl) (by kernel_rfl) (by kernel_rfl) rfl rfl (fun w hS => ian (k / 4) ((k / 4) * 4) Tryz.underlying117 sz107 rfl rfl rfl rfl (by omega) (by omega) (by omega) ⟨rfl, rfl⟩) (hS.sublist (.cons _ (.cons_cons _ (.cons_cons _ (.cons_cons _ (List.nil_sublist _)))))) ?_
    refine dq 9 rfl (by kernel_rfl) (by kernel_rfl) (by kernel_rfl) rfl rfl (fun w hS => ian (k % 4) ((k / 4) * 4 + (k % 4)) Tryz.underlying107 sz5 rfl rfl rfl rfl (by omega) (by omega) (by omega) ⟨rfl, rfl⟩) (hS.sublist (.cons _ (.cons_cons _ (.cons_cons _ (.cons_cons _ (List.nil_sublist _)))))) ?_
    refine dq 10 rfl (by kernel_rfl) (by kernel_rfl) (by kernel_rfl) rfl rfl (fun w hS => lo 0 sc5 hS rfl rfl rfl rfl (BV_get _ ((k / 4) * 4 + (k % 4)) (by omega)) ⟨rfl, rfl⟩) (hS.sublist (.cons _ (.cons_cons _ (.cons_cons _ (.cons_cons _ (List.nil_sublist _)))))) ?_
    refine dq 11 rfl (by kernel_rfl) (by kernel_rfl) (by kernel_rfl) rfl rfl (fun w hS => ian (k / 16) ((k / 16) * 16) Tryz.underlying45 sz22 rfl rfl rfl rfl (by omega) (by omega) (by omega) ⟨rfl, rfl⟩) (hS.sublist (.cons _ (.cons_cons _ (.cons_cons _ (.cons_cons _ (List.nil_sublist _)))))) ?_
    refine dq 12 rfl (by kernel_rfl) (by kernel_rfl) (by kernel_rfl) rfl rfl (fun w hS => ian (k % 16) ((k / 16) * 16 + (k % 16)) Tryz.underlying22 sz5 rfl rfl rfl rfl (by omega) (by omega) (by omega) ⟨rfl, rfl⟩) (hS.sublist (.cons _ (.cons_cons _ (.cons_cons _ (.cons_cons _ (List.nil_sublist _)))))) ?_
    refine dl 13 rfl (by kernel_rfl) ?_
    refine st (cs' := BV (fill8 176 (gv (wdS key 44)) (Vector.replicate 176 0) (k + 1))) 0 sz5 hS rfl rfl rfl rfl rfl rfl (by rw [BV_size]; omega) (by rw [BV_set, show k / 16 * 16 + k % 16 = k by omega, show k / 4 * 4 + k % 4 = k by omega]; exact congrArg BV (fill8_succ (gv (wdS key 44)) _ k)) ?_
    intro w hS
    refine ⟨fun _ => (hS.sublist (.cons _ (.cons_cons _ (.cons_cons _ (.cons_cons _ (List.nil_sublist _)))))), ?_⟩
    refine de (by kernel_rfl) ?_
    refine q_block_norm ?_
    refine wq_then ?_
    refine wc_region ?_
    refine mv rfl rfl rfl ?_
    refine addi (by omega) (by omega) rfl rfl rfl rfl ?_
    refine asg rfl rfl rfl ?_
    refine again_q (k + 1) ⟨rfl, rfl, rfl, lkI rfl (by first | omega | rfl), trivial⟩ ⟨by omega, hS⟩ (by omega)
  · skip
    try simp only [SB] at hc1
    refine wc_exit ?_
    refine q_then_exit ?_
    refine q_then_exit ?_
    refine q_block_hit ?_
    refine wq_then ?_
    refine rg ?_
    refine la 0 ag45 hS rfl rfl rfl rfl (BV_size _) ?_
    refine sa 2 ag45 hS rfl rfl rfl (BV_one _) rfl (BV_size _) (BV_size _) ?_
    intro w hS
    refine wq_then ?_
    refine wc_ret ?_
    refine fin1 (v := .agg (BV (fill8 176 (gv (wdS key 44)) (Vector.replicate 176 0) k))) rfl ⟨_, rfl, lv_a ag45 (hS.get 2 rfl) (BV_size _)⟩ ?_
    refine ⟨?_, hS.drop⟩
    have hk5 : k = 176 := by omega
    rw [hk5, fill8_n, ofFn_gv, wd_expand]
end Go.Proofs.XZ

/- walks -/
namespace Go.Proofs.XZ
open Go Go.X Go.Proofs
set_option maxRecDepth 100000 in
theorem sp_mooringref06_Prepare (key : V8 16) (w0 : World) : Calls Tryz.prog 15 #[.agg (BV key)] w0 (Ret w0 (.agg (BV (expand key) ++ BV sboxV))) := by
  refine enter (args := [.agg (BV key)]) Tryz.func15 rfl rfl ?_
  refine startw fun w hS => ?_
  refine rg ?_
  refine bxa hS rfl rfl rfl ?_
  intro b1 w hb1 hS
  refine ala zr48 hS rfl rfl ?_
  intro b2 w hb2 hS
  refine wq_then ?_
  refine rg ?_
  refine la 1 ag22 hS rfl rfl rfl rfl (BV_size _) ?_
  refine cv cf40 hS rfl rfl rfl rfl rfl (sp_mooringref05_Expand (key) _) ?_
  intro w hS
  refine cv cf41 hS rfl rfl rfl rfl rfl (sp_mooringref04_Table _) ?_
  intro w hS
  refine bd (cs := BV (expand key) ++ BV sboxV) rfl rfl rfl ((bu48 _).trans (fill_w (off := 0) (size := 176) rfl (BV_size _) (le_sz (a := 432) (cat_size (a := 176) (b := 256) (BV_size _) (BV_size _)) (by omega)) (cat_pl (a := 176) (BV_size _) (ple (BV_size _) (by omega)) (put_all (BV_size _) (BV_size _))) <| fill_w (off := 176) (size := 256) rfl (BV_size _) (le_sz (a := 432) (cat_size (a := 176) (b := 256) (BV_size _) (BV_size _)) (by omega)) (cat_pr (a := 176) (o' := 0) (BV_size _) (by omega) (ple2 (BV_size _) (BV_size _) (by omega)) (put_all (BV_size _) (BV_size _))) <| rfl)) ?_
  refine sa 0 ag48 hS rfl rfl rfl (cat_one (BV_one _) (BV_one _)) rfl (cat_size (a := 176) (b := 256) (BV_size _) (BV_size _)) (cat_size (a := 176) (b := 256) (BV_size _) (BV_size _)) ?_
  intro w hS
  refine wq_then ?_
  refine wc_ret ?_
  refine fin1 (v := .agg (BV (expand key) ++ BV sboxV)) rfl ⟨_, rfl, lv_a ag48 (hS.get 0 rfl) (cat_size (a := 176) (b := 256) (BV_size _) (BV_size _))⟩ ?_
  exact ⟨rfl, hS.drop⟩
end Go.Proofs.XZ

/- walks -/
namespace Go.Proofs.XZ
open Go Go.X Go.Proofs
set_option maxRecDepth 100000 in
theorem sp_mooringref01_Number (a : Option Addr) (n cap : Nat) (bs : List UInt8) (w0 : World) (hn : bs.length = n) (hN : n ≤ 1000000) (hc : Cel w0 a (c8 bs)) : Calls Tryz.prog 65 #[.slice a n cap] w0 (Ret w0 (U64 (num2 bs))) := by
  refine enter (args := [.slice a n cap]) Tryz.func65 rfl rfl ?_
  refine startw fun w hS => ?_
  refine rg ?_
  refine asg rfl rfl rfl ?_
  refine wq_then ?_
  refine rg ?_
  refine asg rfl rfl rfl ?_
  refine wq_then ?_
  refine wc_seq ?_
  refine rg ?_
  refine asg rfl rfl rfl ?_
  refine wq_then ?_
  refine wc_block ?_
  refine wc_loop (σ := Nat) (fun k => [(0, .slice a n cap), (2, U64 (0)), (3, U64 (num2 (bs.take k))), (4, I ((k : Int)))])
    (fun k w => (k ≤ n) ∧ St w0 [] [] w) (fun k => n - k) 0 ⟨rfl, rfl, rfl, rfl, trivial⟩ ⟨by omega, hS⟩ ?_
  rintro k w ⟨hk, hS⟩
  refine wc_seq ?_
  refine rg ?_
  refine mv rfl rfl rfl ?_
  refine mv rfl rfl rfl ?_
  refine lens Tryz.underlying25 rfl rfl rfl ?_
  refine lss rfl rfl rfl rfl ?_
  refine wq_then ?_
  refine wc_if rfl (fun hc1 => ?_) (fun hc1 => ?_)
  · skip
    try simp only [SB] at hc1
    refine wc_skip ?_
    refine wq_then ?_
    refine wc_seq ?_
    refine wc_block ?_
    refine wc_region ?_
    refine mv rfl rfl rfl ?_
    refine mul64 (q := (256 : UInt64)) rfl rfl rfl rfl ?_
    refine mv rfl rfl rfl ?_
    refine mv rfl rfl rfl ?_
    refine slx (k) Tryz.underlying25 sz5 rfl rfl rfl rfl (by omega) (by omega) ((hc.st hS).some8 (j := k) (by first | omega | (simp; done) | (simp; omega))) ?_
    refine ldx sc5 rfl rfl rfl (hc.st hS) (by first | omega | (simp; done) | (simp; omega)) ?_
    refine cvu64 Tryz.underlying23 ⟨_, Tryz.underlying5⟩ rfl rfl rfl ?_
    refine add64 rfl rfl rfl rfl ?_
    refine asg rfl rfl rfl ?_
    refine q_block_norm ?_
    refine wq_then ?_
    refine wc_region ?_
    refine mv rfl rfl rfl ?_
    refine addi (by omega) (by omega) rfl rfl rfl rfl ?_
    refine asg rfl rfl rfl ?_
    refine again_q (k + 1) ⟨rfl, rfl, lkU64 rfl (num2_take _ _ (by omega)), lkI rfl (by first | omega | rfl), trivial⟩ ⟨by omega, hS⟩ (by omega)
  · skip
    try simp only [SB] at hc1
    have hk4 : k = bs.length := by omega
    refine wc_exit ?_
    refine q_then_exit ?_
    refine q_then_exit ?_
    refine q_block_hit ?_
    refine wq_then ?_
    refine rg ?_
    refine mv rfl rfl rfl ?_
    refine asg rfl rfl rfl ?_
    refine wq_then ?_
    refine wc_ret ?_
    refine fin1 (v := U64 (num2 (bs.take k))) rfl rfl ?_
    refine ⟨?_, hS.drop⟩
    rw [hk4, List.take_length]
end Go.Proofs.XZ

/- walks -/
namespace Go.Proofs.XZ
open Go Go.X Go.Proofs
set_option maxRecDepth 100000 in
theorem sp_mooringref15_ParseHead (a : Option Addr) (n cap : Nat) (bs : List UInt8) (w0 : World) (hn : bs.length = n) (hN : n ≤ 1000000) (hc : Cel w0 a (c8 bs)) (hcap : n ≤ cap) (h8 : 8 ≤ n) : Calls Tryz.prog 42 #[.slice a n cap] w0 (Ret w0 (.tuple #[I ((headD2 bs : Nat) : Int), U64 (headS2 bs)])) := by
  refine enter (args := [.slice a n cap]) Tryz.func42 rfl rfl ?_
  refine startw fun w hS => ?_
  refine rg ?_
  refine asg rfl rfl rfl ?_
  refine asg rfl rfl rfl ?_
  refine wq_then ?_
  refine rg ?_
  refine mv rfl rfl rfl ?_
  refine s_h (8) Tryz.underlying25 ⟨_, sz5⟩ rfl rfl rfl rfl (by omega) (by omega) ?_
  refine cv cf65 hS rfl rfl rfl rfl rfl (sp_mooringref01_Number (a) (8) (cap) (((bs).take 8)) _ (by first | rfl | omega | (simp; omega) | (simp; done)) (by omega) ((hc.st hS).take8 8)) ?_
  intro w hS
  refine asg rfl rfl rfl ?_
  refine wq_then ?_
  refine wc_seq ?_
  refine rg ?_
  refine mv rfl rfl rfl ?_
  refine geq rfl rfl rfl rfl ?_
  refine wq_then ?_
  refine wc_if rfl (fun hc1 => ?_) (fun hc1 => ?_)
  · skip
    try simp only [SB] at hc1
    refine rg ?_
    refine mv rfl rfl rfl ?_
    refine sub64 (q := (9223372036854775808 : UInt64)) rfl rfl rfl rfl ?_
    refine asg rfl rfl rfl ?_
    refine asg rfl rfl rfl ?_
    refine wq_then ?_
    refine wc_ret ?_
    refine q_then_ret ?_
    refine fin2 (v := I (1)) (u := U64 ((num2 ((bs).take 8)) - 9223372036854775808)) rfl rfl rfl ?_
    refine ⟨?_, hS.drop⟩
    have hg : 9223372036854775808 ≤ (num2 (bs.take 8)).toNat := by omega
    simp only [headD2, headS2, if_pos hg]; rfl
  · skip
    try simp only [SB] at hc1
    refine wc_skip ?_
    refine wq_then ?_
    refine rg ?_
    refine mv rfl rfl rfl ?_
    refine asg rfl rfl rfl ?_
    refine asg rfl rfl rfl ?_
    refine wq_then ?_
    refine wc_ret ?_
    refine fin2 (v := I (0)) (u := U64 (num2 ((bs).take 8))) rfl rfl rfl ?_
    refine ⟨?_, hS.drop⟩
    have hg : ¬ 9223372036854775808 ≤ (num2 (bs.take 8)).toNat := by omega
    simp only [headD2, headS2, if_neg hg]; rfl
end Go.Proofs.XZ

/- walks -/
namespace Go.Proofs.XZ
open Go Go.X Go.Proofs
set_option maxRecDepth 100000 in
theorem sp_mooringref04_Turned (t : V8 256) (w0 : World) : Calls Tryz.prog 127 #[.agg (BV t)] w0 (Ret w0 (.agg (BV (trR t 256)))) := by
  refine enter (args := [.agg (BV t)]) Tryz.func127 rfl rfl ?_
  refine startw fun w hS => ?_
  refine rg ?_
  refine bxa hS rfl rfl rfl ?_
  intro b1 w hb1 hS
  refine ala zr46 hS rfl rfl ?_
  intro b2 w hb2 hS
  refine wq_then ?_
  refine rg ?_
  refine ala zr46 hS rfl rfl ?_
  intro b3 w hb3 hS
  refine wq_then ?_
  refine wc_seq ?_
  refine rg ?_
  refine asg rfl rfl rfl ?_
  refine wq_then ?_
  refine wc_block ?_
  refine wc_loop (σ := Nat) (fun k => [(1, Ptr b1 0), (2, Ptr b2 0), (3, Ptr b3 0), (4, I ((k : Int)))])
    (fun k w => (k ≤ 256) ∧ St w0 [] [(b3, .cells (BV (trR t k)) 46), (b2, .cells (BV (Vector.replicate 256 0)) 46), (b1, .cells (BV t) 46)] w) (fun k => 256 - k) 0 ⟨rfl, rfl, rfl, rfl, trivial⟩ ⟨by omega, hS⟩ ?_
  rintro k w ⟨hk, hS⟩
  refine wc_seq ?_
  refine rg ?_
  refine mv rfl rfl rfl ?_
  refine lss rfl rfl rfl rfl ?_
  refine wq_then ?_
  refine wc_if rfl (fun hc1 => ?_) (fun hc1 => ?_)
  · skip
    try simp only [SB] at hc1
    refine wc_skip ?_
    refine wq_then ?_
    refine wc_seq ?_
    refine wc_block ?_
    refine wc_region ?_
    refine mv rfl rfl rfl ?_
    refine ian (k) (k) Tryz.underlying46 sz5 rfl rfl rfl rfl (by omega) (by omega) (by omega) ?_
    refine lo 2 sc5 hS rfl rfl rfl rfl (BV_get _ k (by omega)) ?_
    refine mv rfl rfl rfl ?_
    refine cvu8 Tryz.underlying5 ⟨_, Tryz.underlying3⟩ rfl rfl rfl ?_
    refine ian ((gv t k).toNat) (((gv t k).toNat)) Tryz.underlying46 sz5 rfl rfl rfl rfl (by omega) (by have := (gv t k).toNat_lt; omega) (by omega) ?_
    refine st 0 sz5 hS rfl rfl rfl rfl rfl rfl (by rw [BV_size]; have := (gv t k).toNat_lt; omega) (BV_set _ _ (toU8 ((k : Int)) : UInt8)) ?_
    intro w hS
    refine q_block_norm ?_
    refine wq_then ?_
    refine wc_region ?_
    refine mv rfl rfl rfl ?_
    refine addi (by omega) (by omega) rfl rfl rfl rfl ?_
    refine asg rfl rfl rfl ?_
    refine again_q (k + 1) ⟨rfl, rfl, rfl, lkI rfl (by first | omega | rfl), trivial⟩ ⟨by omega, hS⟩ (by omega)
  · skip
    try simp only [SB] at hc1
    refine wc_exit ?_
    refine q_then_exit ?_
    refine q_then_exit ?_
    refine q_block_hit ?_
    refine wq_then ?_
    refine rg ?_
    refine la 0 ag46 hS rfl rfl rfl rfl (BV_size _) ?_
    refine sa 1 ag46 hS rfl rfl rfl (BV_one _) rfl (BV_size _) (BV_size _) ?_
    intro w hS
    refine wq_then ?_
    refine wc_ret ?_
    refine fin1 (v := .agg (BV (trR t k))) rfl ⟨_, rfl, lv_a ag46 (hS.get 1 rfl) (BV_size _)⟩ ?_
    refine ⟨?_, hS.drop⟩
    have hk5 : k = 256 := by omega
    rw [hk5]
end Go.Proofs.XZ

/- walks -/
namespace Go.Proofs.XZ
open Go Go.X Go.Proofs
set_option maxRecDepth 100000 in
theorem sp_mooringref13_unmix (g : V8 16) (w0 : World) : Calls Tryz.prog 128 #[.agg (BV g)] w0 (Ret w0 (.agg (BV (unG g)))) := by
  refine enter (args := [.agg (BV g)]) Tryz.func128 rfl rfl ?_
  refine startw fun w hS => ?_
  refine rg ?_
  refine bxa hS rfl rfl rfl ?_
  intro b1 w hb1 hS
  refine ala zr164 hS rfl rfl ?_
  intro b2 w hb2 hS
  refine wq_then ?_
  refine rg ?_
  refine ala zr164 hS rfl rfl ?_
  intro b3 w hb3 hS
  refine wq_then ?_
  refine wc_seq ?_
  refine rg ?_
  refine asg rfl rfl rfl ?_
  refine wq_then ?_
  refine wc_block ?_
  refine wc_loop (σ := Nat) (fun c => [(1, Ptr b1 0), (2, Ptr b2 0), (3, Ptr b3 0), (4, I ((c : Int)))])
    (fun c w => (c ≤ 4) ∧ St w0 [] [(b3, .cells (BV (gfill (unGf g) (Vector.replicate 16 0) c 0)) 164), (b2, .cells (BV (Vector.replicate 16 0)) 164), (b1, .cells (BV g) 164)] w) (fun c => 4 - c) 0 ⟨rfl, rfl, rfl, rfl, trivial⟩ ⟨by omega, (by rw [gfill_0]; exact hS)⟩ ?_
  rintro c w ⟨hk, hS⟩
  refine wc_seq ?_
  refine rg ?_
  refine mv rfl rfl rfl ?_
  refine lss rfl rfl rfl rfl ?_
  refine wq_then ?_
  refine wc_if rfl (fun hc1 => ?_) (fun hc1 => ?_)
  · skip
    try simp only [SB] at hc1
    refine wc_skip ?_
    refine wq_then ?_
    refine wc_seq ?_
    refine wc_block ?_
    refine rg ?_
    refine asg rfl rfl rfl ?_
    refine wq_then ?_
    refine wc_block ?_
    refine wc_loop (σ := Nat) (fun k => [(1, Ptr b1 0), (2, Ptr b2 0), (3, Ptr b3 0), (4, I ((c : Int))), (5, I ((k : Int)))])
      (fun k w => (k ≤ 4) ∧ St w0 [] [(b3, .cells (BV (gfill (unGf g) (Vector.replicate 16 0) c k)) 164), (b2, .cells (BV (Vector.replicate 16 0)) 164), (b1, .cells (BV g) 164)] w) (fun k => 4 - k) 0 ⟨rfl, rfl, rfl, rfl, rfl, trivial⟩ ⟨by omega, hS⟩ ?_
    rintro k w ⟨hk, hS⟩
    refine wc_seq ?_
    refine rg ?_
    refine mv rfl rfl rfl ?_
    refine lss rfl rfl rfl rfl ?_
    refine wq_then ?_
    refine wc_if rfl (fun hc2 => ?_) (fun hc2 => ?_)
    · skip
      try simp only [SB] at hc2
      refine wc_skip ?_
      refine wq_then ?_
      refine wc_seq ?_
      refine wc_block ?_
      refine rd mo 15 (fun w => St w0 [] [(b3, .cells (BV (gfill (unGf g) (Vector.replicate 16 0) c k)) 164), (b2, .cells (BV (Vector.replicate 16 0)) 164), (b1, .cells (BV g) 164)] w) ?_
      have hS := hS.drew
      refine dq 0 rfl (by kernel_rfl) (by kernel_rfl) (by kernel_rfl) rfl rfl (fun w hS => mv rfl rfl rfl ⟨rfl, rfl⟩) hS ?_
      refine dq 1 rfl (by kernel_rfl) (by kernel_rfl) (by kernel_rfl) rfl rfl (fun w hS => mv rfl rfl rfl ⟨rfl, rfl⟩) hS ?_
      refine dq 2 rfl (by kernel_rfl) (by kernel_rfl) (by kernel_rfl) rfl rfl (fun w hS => ian (k) (k * 4) Tryz.underlying164 sz107 rfl rfl rfl rfl (by omega) (by omega) (by omega) ⟨rfl, rfl⟩) hS ?_
      refine dq 3 rfl (by kernel_rfl) (by kernel_rfl) (by kernel_rfl) rfl rfl (fun w hS => ian (c) (k * 4 + c) Tryz.underlying107 sz5 rfl rfl rfl rfl (by omega) (by omega) (by omega) ⟨rfl, rfl⟩) hS ?_
      refine dq 4 rfl (by kernel_rfl) (by kernel_rfl) (by kernel_rfl) rfl rfl (fun w hS => lo 2 sc5 hS rfl rfl rfl rfl (BV_get _ (k * 4 + c) (by omega)) ⟨rfl, rfl⟩) hS ?_
      refine dq 6 rfl (by kernel_rfl) (by kernel_rfl) (by kernel_rfl) rfl rfl (fun w hS => mv rfl rfl rfl ⟨rfl, rfl⟩) hS ?_
      refine dq 7 rfl (by kernel_rfl) (by kernel_rfl) (by kernel_rfl) rfl rfl (fun w hS => addi (by omega) (by omega) rfl rfl rfl rfl ⟨rfl, rfl⟩) hS ?_
      refine dq 8 rfl (by kernel_rfl) (by kernel_rfl) (by kernel_rfl) rfl rfl (fun w hS => remi (by omega) (by omega) rfl rfl rfl rfl ⟨rfl, rfl⟩) hS ?_
      refine dq 9 rfl (by kernel_rfl) (by kernel_rfl) (by kernel_rfl) rfl rfl (fun w hS => mv rfl rfl rfl ⟨rfl, rfl⟩) hS ?_
      refine dq 10 rfl (by kernel_rfl) (by kernel_rfl) (by kernel_rfl) rfl rfl (fun w hS => ian ((k + 1) % 4) (((k + 1) % 4) * 4) Tryz.underlying164 sz107 rfl rfl rfl rfl (by omega) (by omega) (by omega) ⟨rfl, rfl⟩) hS ?_
      refine dq 11 rfl (by kernel_rfl) (by kernel_rfl) (by kernel_rfl) rfl rfl (fun w hS => ian (c) (((k + 1) % 4) * 4 + c) Tryz.underlying107 sz5 rfl rfl rfl rfl (by omega) (by omega) (by omega) ⟨rfl, rfl⟩) hS ?_
      refine dq 12 rfl (by kernel_rfl) (by kernel_rfl) (by kernel_rfl) rfl rfl (fun w hS => lo 2 sc5 hS rfl rfl rfl rfl (BV_get _ (((k + 1) % 4) * 4 + c) (by omega)) ⟨rfl, rfl⟩) hS ?_
      refine dl 5 rfl (by kernel_rfl) ?_
      refine cv cf63 hS rfl rfl rfl rfl rfl (sp_mooringref03_Mul (14) ((gv g (k * 4 + c))) _) ?_
      intro w hS
      refine ⟨fun _ => hS, ?_⟩
      refine dl 13 rfl (by kernel_rfl) ?_
      refine cv cf63 hS rfl rfl rfl rfl rfl (sp_mooringref03_Mul (11) ((gv g (((k + 1) % 4) * 4 + c))) _) ?_
      intro w hS
      refine ⟨fun _ => hS, ?_⟩
      refine dq 14 rfl (by kernel_rfl) (by kernel_rfl) (by kernel_rfl) rfl rfl (fun w hS => xor8 rfl rfl rfl rfl ⟨rfl, rfl⟩) hS ?_
      refine dl 15 rfl (by kernel_rfl) ?_
      refine asg rfl rfl rfl ?_
      refine ⟨fun h => (by cases h), ?_⟩
      refine de (by kernel_rfl) ?_
      refine wq_then ?_
      refine wc_draw mo 24 (fun w => St w0 [] [(b2, .cells (BV (Vector.replicate 16 0)) 164), (b1, .cells (BV g) 164)] w) ?_
      have hS := hS.drew
      refine dq 0 rfl (by kernel_rfl) (by kernel_rfl) (by kernel_rfl) rfl rfl (fun w hS => mv rfl rfl rfl ⟨rfl, rfl⟩) (hS.sublist (.cons _ (.cons_cons _ (.cons_cons _ (List.nil_sublist _))))) ?_
      refine dq 1 rfl (by kernel_rfl) (by kernel_rfl) (by kernel_rfl) rfl rfl (fun w hS => mv rfl rfl rfl ⟨rfl, rfl⟩) (hS.sublist (.cons _ (.cons_cons _ (.cons_cons _ (List.nil_sublist _))))) ?_
      refine dq 2 rfl (by kernel_rfl) (by kernel_rfl) (by kernel_rfl) rfl rfl (fun w hS => mv rfl rfl rfl ⟨rfl, rfl⟩) (hS.sublist (.cons _ (.cons_cons _ (.cons_cons _ (List.nil_sublist _))))) ?_
      refine dq 3 rfl (by kernel_rfl) (by kernel_rfl) (by kernel_rfl) rfl rfl (fun w hS => mv rfl rfl rfl ⟨rfl, rfl⟩) (hS.sublist (.cons _ (.cons_cons _ (.cons_cons _ (List.nil_sublist _))))) ?_
      refine dq 4 rfl (by kernel_rfl) (by kernel_rfl) (by kernel_rfl) rfl rfl (fun w hS => addi (by omega) (by omega) rfl rfl rfl rfl ⟨rfl, rfl⟩) (hS.sublist (.cons _ (.cons_cons _ (.cons_cons _ (List.nil_sublist _))))) ?_
      refine dq 5 rfl (by kernel_rfl) (by kernel_rfl) (by kernel_rfl) rfl rfl (fun w hS => remi (by omega) (by omega) rfl rfl rfl rfl ⟨rfl, rfl⟩) (hS.sublist (.cons _ (.cons_cons _ (.cons_cons _ (List.nil_sublist _))))) ?_
      refine dq 6 rfl (by kernel_rfl) (by kernel_rfl) (by kernel_rfl) rfl rfl (fun w hS => mv rfl rfl rfl ⟨rfl, rfl⟩) (hS.sublist (.cons _ (.cons_cons _ (.cons_cons _ (List.nil_sublist _))))) ?_
      refine dq 7 rfl (by kernel_rfl) (by kernel_rfl) (by kernel_rfl) rfl rfl (fun w hS => ian ((k + 2) % 4) (((k + 2) % 4) * 4) Tryz.underlying164 sz107 rfl rfl rfl rfl (by omega) (by omega) (by omega) ⟨rfl, rfl⟩) (hS.sublist (.cons _ (.cons_cons _ (.cons_cons _ (List.nil_sublist _))))) ?_
      refine dq 8 rfl (by kernel_rfl) (by kernel_rfl) (by kernel_rfl) rfl rfl (fun w hS => ian (c) (((k + 2) % 4) * 4 + c) Tryz.underlying107 sz5 rfl rfl rfl rfl (by omega) (by omega) (by omega) ⟨rfl, rfl⟩) (hS.sublist (.cons _ (.cons_cons _ (.cons_cons _ (List.nil_sublist _))))) ?_
      refine dq 9 rfl (by kernel_rfl) (by kernel_rfl) (by kernel_rfl) rfl rfl (fun w hS => lo 1 sc5 hS rfl rfl rfl rfl (BV_get _ (((k + 2) % 4) * 4 + c) (by omega)) ⟨rfl, rfl⟩) (hS.sublist (.cons _ (.cons_cons _ (.cons_cons _ (List.nil_sublist _))))) ?_
      refine dq 12 rfl (by kernel_rfl) (by kernel_rfl) (by kernel_rfl) rfl rfl (fun w hS => mv rfl rfl rfl ⟨rfl, rfl⟩) (hS.sublist (.cons _ (.cons_cons _ (.cons_cons _ (List.nil_sublist _))))) ?_
      refine dq 13 rfl (by kernel_rfl) (by kernel_rfl) (by kernel_rfl) rfl rfl (fun w hS => addi (by omega) (by omega) rfl rfl rfl rfl ⟨rfl, rfl⟩) (hS.sublist (.cons _ (.cons_cons _ (.cons_cons _ (List.nil_sublist _))))) ?_
      refine dq 14 rfl (by kernel_rfl) (by kernel_rfl) (by kernel_rfl) rfl rfl (fun w hS => remi (by omega) (by omega) rfl rfl rfl rfl ⟨rfl, rfl⟩) (hS.sublist (.cons _ (.cons_cons _ (.cons_cons _ (List.nil_sublist _))))) ?_
      refine dq 15 rfl (by kernel_rfl) (by kernel_rfl) (by kernel_rfl) rfl rfl (fun w hS => mv rfl rfl rfl ⟨rfl, rfl⟩) (hS.sublist (.cons _ (.cons_cons _ (.cons_cons _ (List.nil_sublist _))))) ?_
      refine dq 16 rfl (by kernel_rfl) (by kernel_rfl) (by kernel_rfl) rfl rfl (fun w hS => ian ((k + 3) % 4) (((k + 3) % 4) * 4) Tryz.underlying164 sz107 rfl rfl rfl rfl (by omega) (by omega) (by omega) ⟨rfl, rfl⟩) (hS.sublist (.cons _ (.cons_cons _ (.cons_cons _ (List.nil_sublist _))))) ?_
      refine dq 17 rfl (by kernel_rfl) (by kernel_rfl) (by kernel_rfl) rfl rfl (fun w hS => ian (c) (((k + 3) % 4) * 4 + c) Tryz.underlying107 sz5 rfl rfl rfl rfl (by omega) (by omega) (by omega) ⟨rfl, rfl⟩) (hS.sublist (.cons _ (.cons_cons _ (.cons_cons _ (List.nil_sublist _))))) ?_
      refine dq 18 rfl (by kernel_rfl) (by kernel_rfl) (by kernel_rfl) rfl rfl (fun w hS => lo 1 sc5 hS rfl rfl rfl rfl (BV_get _ (((k + 3) % 4) * 4 + c) (by omega)) ⟨rfl, rfl⟩) (hS.sublist (.cons _ (.cons_cons _ (.cons_cons _ (List.nil_sublist _))))) ?_
      refine dq 21 rfl (by kernel_rfl) (by kernel_rfl) (by kernel_rfl) rfl rfl (fun w hS => ian (k) (k * 4) Tryz.underlying164 sz107 rfl rfl rfl rfl (by omega) (by omega) (by omega) ⟨rfl, rfl⟩) (hS.sublist (.cons _ (.cons_cons _ (.cons_cons _ (List.nil_sublist _))))) ?_
      refine dl 10 rfl (by kernel_rfl) ?_
      refine cv cf63 hS rfl rfl rfl rfl rfl (sp_mooringref03_Mul (13) ((gv g (((k + 2) % 4) * 4 + c))) _) ?_
      intro w hS
      refine ⟨fun _ => (hS.sublist (.cons _ (.cons_cons _ (.cons_cons _ (List.nil_sublist _))))), ?_⟩
      refine dq 11 rfl (by kernel_rfl) (by kernel_rfl) (by kernel_rfl) rfl rfl (fun w hS => xor8 rfl rfl rfl rfl ⟨rfl, rfl⟩) (hS.sublist (.cons _ (.cons_cons _ (.cons_cons _ (List.nil_sublist _))))) ?_
      refine dl 19 rfl (by kernel_rfl) ?_
      refine cv cf63 hS rfl rfl rfl rfl rfl (sp_mooringref03_Mul (9) ((gv g (((k + 3) % 4) * 4 + c))) _) ?_
      intro w hS
      refine ⟨fun _ => (hS.sublist (.cons _ (.cons_cons _ (.cons_cons _ (List.nil_sublist _))))), ?_⟩
      refine dq 20 rfl (by kernel_rfl) (by kernel_rfl) (by kernel_rfl) rfl rfl (fun w hS => xor8 rfl rfl rfl rfl ⟨rfl, rfl⟩) (hS.sublist (.cons _ (.cons_cons _ (.cons_cons _ (List.nil_sublist _))))) ?_
      refine dq 22 rfl (by kernel_rfl) (by kernel_rfl) (by kernel_rfl) rfl rfl (fun w hS => ian (c) (k * 4 + c) Tryz.underlying107 sz5 rfl rfl rfl rfl (by omega) (by omega) (by omega) ⟨rfl, rfl⟩) (hS.sublist (.cons _ (.cons_cons _ (.cons_cons _ (List.nil_sublist _))))) ?_
      refine dl 23 rfl (by kernel_rfl) ?_
      refine st (cs' := BV (gfill (unGf g) (Vector.replicate 16 0) c (k + 1))) 0 sz5 hS rfl rfl rfl rfl rfl rfl (by rw [BV_size]; omega) (by rw [BV_set, show (((mulR 14 (gv g (k * 4 + c))) ^^^ (mulR 11 (gv g (((k + 1) % 4) * 4 + c)))) ^^^ (mulR 13 (gv g (((k + 2) % 4) * 4 + c)))) ^^^ (mulR 9 (gv g (((k + 3) % 4) * 4 + c))) = (unGf g) (k * 4 + c) by (simp only [mixGf, unGf, show (k * 4 + c) / 4 = k by omega, show (k * 4 + c) % 4 = c by omega])]; exact congrArg BV (gfill_set (unGf g) _ (by omega) (by omega))) ?_
      intro w hS
      refine ⟨fun _ => (hS.sublist (.cons _ (.cons_cons _ (.cons_cons _ (List.nil_sublist _))))), ?_⟩
      refine de (by kernel_rfl) ?_
      refine q_block_norm ?_
      refine wq_then ?_
      refine wc_region ?_
      refine mv rfl rfl rfl ?_
      refine addi (by omega) (by omega) rfl rfl rfl rfl ?_
      refine asg rfl rfl rfl ?_
      refine again_q (k + 1) ⟨rfl, rfl, rfl, rfl, lkI rfl (by first | omega | rfl), trivial⟩ ⟨by omega, hS⟩ (by omega)
    · skip
      try simp only [SB] at hc2
      have hk4 : k = 4 := by omega
      rw [hk4, gfill_next] at hS
      refine wc_exit ?_
      refine q_then_exit ?_
      refine q_then_exit ?_
      refine q_block_hit ?_
      refine q_block_norm ?_
      refine wq_then ?_
      refine wc_region ?_
      refine mv rfl rfl rfl ?_
      refine addi (by omega) (by omega) rfl rfl rfl rfl ?_
      refine asg rfl rfl rfl ?_
      refine again_q (c + 1) ⟨rfl, rfl, rfl, lkI rfl (by first | omega | rfl), trivial⟩ ⟨by omega, hS⟩ (by omega)
  · skip
    try simp only [SB] at hc1
    refine wc_exit ?_
    refine q_then_exit ?_
    refine q_then_exit ?_
    refine q_block_hit ?_
    refine wq_then ?_
    refine rg ?_
    refine la 0 ag164 hS rfl rfl rfl rfl (BV_size _) ?_
    refine sa 1 ag164 hS rfl rfl rfl (BV_one _) rfl (BV_size _) (BV_size _) ?_
    intro w hS
    refine wq_then ?_
    refine wc_ret ?_
    refine fin1 (v := .agg (BV (gfill (unGf g) (Vector.replicate 16 0) c 0))) rfl ⟨_, rfl, lv_a ag164 (hS.get 1 rfl) (BV_size _)⟩ ?_
    refine ⟨?_, hS.drop⟩
    have hc4 : c = 4 := by omega
    rw [hc4, gfill_end]; rfl
end Go.Proofs.XZ

/- walks -/
namespace Go.Proofs.XZ
open Go Go.X Go.Proofs
set_option maxRecDepth 100000 in
theorem sp_mooringref13_Block (key b : V8 16) (w0 : World) : Calls Tryz.prog 100 #[.agg (BV (expand key) ++ BV sboxV), .agg (BV b)] w0 (Ret w0 (.agg (BV (dec key b)))) := by
  refine enter (args := [.agg (BV (expand key) ++ BV sboxV), .agg (BV b)]) Tryz.func100 rfl rfl ?_
  refine startw fun w hS => ?_
  refine rg ?_
  refine bxa hS rfl rfl rfl ?_
  intro b2 w hb2 hS
  refine bxa hS rfl rfl rfl ?_
  intro b3 w hb3 hS
  refine ala zr22 hS rfl rfl ?_
  intro b4 w hb4 hS
  refine wq_then ?_
  refine rg ?_
  refine fan (176) (176) Tryz.underlying48 rfl sz46 (by decide) rfl rfl rfl rfl (by omega) ?_
  refine lp (u := .agg (BV sboxV)) 2 ag46 hS rfl rfl rfl rfl (le_sz (a := 432) (cat_size (a := 176) (b := 256) (BV_size _) (BV_size _)) (by omega)) (cat_xr (a := 176) (o' := 0) (BV_size _) (by omega) (ext_all (BV_size _))) rfl ?_
  refine cv cf127 hS rfl rfl rfl rfl rfl (sp_mooringref04_Turned (sboxV) _) ?_
  intro w hS
  refine ala zr46 hS rfl rfl ?_
  intro b5 w hb5 hS
  refine sa 0 ag46 hS rfl rfl rfl (BV_one _) rfl (BV_size _) (BV_size _) ?_
  intro w hS
  refine wq_then ?_
  refine rg ?_
  refine la 2 ag22 hS rfl rfl rfl rfl (BV_size _) ?_
  refine cv cf120 hS rfl rfl rfl rfl rfl (sp_mooringref06_Of (b) _) ?_
  intro w hS
  refine ala zr164 hS rfl rfl ?_
  intro b6 w hb6 hS
  refine sa 0 ag164 hS rfl rfl rfl (BV_one _) rfl (BV_size _) (BV_size _) ?_
  intro w hS
  refine wq_then ?_
  refine wc_seq ?_
  refine rg ?_
  refine asg rfl rfl rfl ?_
  refine wq_then ?_
  refine wc_block ?_
  refine wc_loop (σ := Nat) (fun j => [(2, Ptr b2 0), (4, Ptr b4 0), (5, Ptr b5 0), (6, Ptr b6 0), (7, I ((10 : Int) - (j : Int)))])
    (fun j w => (j ≤ 10) ∧ St w0 [] [(b6, .cells (BV (deG key b j)) 164), (b5, .cells (BV (trR sboxV 256)) 46), (b4, .cells (BV (Vector.replicate 16 0)) 22), (b3, .cells (BV b) 22), (b2, .cells (BV (expand key) ++ BV sboxV) 48)] w) (fun j => 10 - j) 0 ⟨rfl, rfl, rfl, rfl, rfl, trivial⟩ ⟨by omega, hS⟩ ?_
  rintro j w ⟨hk, hS⟩
  refine wc_seq ?_
  refine rg ?_
  refine mv rfl rfl rfl ?_
  refine geq rfl rfl rfl rfl ?_
  refine wq_then ?_
  refine wc_if rfl (fun hc1 => ?_) (fun hc1 => ?_)
  · skip
    try simp only [SB] at hc1
    refine wc_skip ?_
    refine wq_then ?_
    refine wc_seq ?_
    refine wc_block ?_
    refine rd mo 6 (fun w => St w0 [] [(b5, .cells (BV (trR sboxV 256)) 46), (b4, .cells (BV (Vector.replicate 16 0)) 22), (b3, .cells (BV b) 22), (b2, .cells (BV (expand key) ++ BV sboxV) 48)] w) ?_
    have hS := hS.drew
    refine dq 1 rfl (by kernel_rfl) (by kernel_rfl) (by kernel_rfl) rfl rfl (fun w hS => mv rfl rfl rfl ⟨rfl, rfl⟩) (hS.sublist (.cons _ (.cons_cons _ (.cons_cons _ (.cons_cons _ (.cons_cons _ (List.nil_sublist _))))))) ?_
    refine dq 2 rfl (by kernel_rfl) (by kernel_rfl) (by kernel_rfl) rfl rfl (fun w hS => fan (0) (0) Tryz.underlying48 rfl sz45 (by decide) rfl rfl rfl rfl (by omega) ⟨rfl, rfl⟩) (hS.sublist (.cons _ (.cons_cons _ (.cons_cons _ (.cons_cons _ (.cons_cons _ (List.nil_sublist _))))))) ?_
    refine dq 3 rfl (by kernel_rfl) (by kernel_rfl) (by kernel_rfl) rfl rfl (fun w hS => ian (10 - j) ((10 - j) * 16) Tryz.underlying45 sz22 rfl rfl rfl rfl (by omega) (by omega) (by omega) ⟨rfl, rfl⟩) (hS.sublist (.cons _ (.cons_cons _ (.cons_cons _ (.cons_cons _ (.cons_cons _ (List.nil_sublist _))))))) ?_
    refine dq 4 rfl (by kernel_rfl) (by kernel_rfl) (by kernel_rfl) rfl rfl (fun w hS => lp (u := .agg (BV (seg8 16 (expand key) ((10 - j) * 16)))) 3 ag22 hS rfl rfl rfl rfl (le_sz (a := 432) (cat_size (a := 176) (b := 256) (BV_size _) (BV_size _)) (by omega)) (cat_xl (a := 176) (BV_size _) (by omega) (BV_extract 16 _ ((10 - j) * 16) (by omega))) rfl ⟨rfl, rfl⟩) (hS.sublist (.cons _ (.cons_cons _ (.cons_cons _ (.cons_cons _ (.cons_cons _ (List.nil_sublist _))))))) ?_
    refine dl 0 rfl (by kernel_rfl) ?_
    refine la 0 ag164 hS rfl rfl rfl rfl (BV_size _) ?_
    refine ⟨fun _ => (hS.sublist (.cons _ (.cons_cons _ (.cons_cons _ (.cons_cons _ (.cons_cons _ (List.nil_sublist _))))))), ?_⟩
    refine dl 5 rfl (by kernel_rfl) ?_
    refine cv cf119 hS rfl rfl rfl rfl rfl (sp_mooringref06_Add ((deG key b j)) ((seg8 16 (expand key) ((10 - j) * 16))) _) ?_
    intro w hS
    refine ⟨fun _ => (hS.sublist (.cons _ (.cons_cons _ (.cons_cons _ (.cons_cons _ (.cons_cons _ (List.nil_sublist _))))))), ?_⟩
    refine dl 6 rfl (by kernel_rfl) ?_
    refine sa 0 ag164 hS rfl rfl rfl (BV_one _) rfl (BV_size _) (BV_size _) ?_
    intro w hS
    refine ⟨fun h => (by cases h), ?_⟩
    refine de (by kernel_rfl) ?_
    refine wq_then ?_
    refine wc_seq ?_
    refine rg ?_
    refine mv rfl rfl rfl ?_
    refine lss rfl rfl rfl rfl ?_
    refine wq_then ?_
    refine wc_if rfl (fun hc2 => ?_) (fun hc2 => ?_)
    · skip
      try simp only [SB] at hc2
      refine wc_region ?_
      refine la 0 ag164 hS rfl rfl rfl rfl (BV_size _) ?_
      refine cv cf128 hS rfl rfl rfl rfl rfl (sp_mooringref13_unmix ((addG (deG key b j) (seg8 16 (expand key) ((10 - j) * 16)))) _) ?_
      intro w hS
      refine sa 0 ag164 hS rfl rfl rfl (BV_one _) rfl (BV_size _) (BV_size _) ?_
      intro w hS
      refine wq_then ?_
      refine rg ?_
      refine la 0 ag164 hS rfl rfl rfl rfl (BV_size _) ?_
      refine cv cf121 hS rfl rfl rfl rfl rfl (sp_mooringref06_Shift ((unG (addG (deG key b j) (seg8 16 (expand key) ((10 - j) * 16))))) _) ?_
      intro w hS
      refine cv cf121 hS rfl rfl rfl rfl rfl (sp_mooringref06_Shift ((shG (unG (addG (deG key b j) (seg8 16 (expand key) ((10 - j) * 16)))))) _) ?_
      intro w hS
      refine cv cf121 hS rfl rfl rfl rfl rfl (sp_mooringref06_Shift ((shG (shG (unG (addG (deG key b j) (seg8 16 (expand key) ((10 - j) * 16))))))) _) ?_
      intro w hS
      refine sa 0 ag164 hS rfl rfl rfl (BV_one _) rfl (BV_size _) (BV_size _) ?_
      intro w hS
      refine wq_then ?_
      refine wc_region ?_
      refine la 0 ag164 hS rfl rfl rfl rfl (BV_size _) ?_
      refine la 1 ag46 hS rfl rfl rfl rfl (BV_size _) ?_
      refine cv cf122 hS rfl rfl rfl rfl rfl (sp_mooringref06_Sub ((shG (shG (shG (unG (addG (deG key b j) (seg8 16 (expand key) ((10 - j) * 16)))))))) ((trR sboxV 256)) _) ?_
      intro w hS
      refine sa 0 ag164 hS rfl rfl rfl (BV_one _) rfl (BV_size _) (BV_size _) ?_
      intro w hS
      refine q_block_norm ?_
      refine wq_then ?_
      refine wc_region ?_
      refine mv rfl rfl rfl ?_
      refine subi (by omega) (by omega) rfl rfl rfl rfl ?_
      refine asg rfl rfl rfl ?_
      refine again_q (j + 1) ⟨rfl, rfl, rfl, rfl, lkI rfl (by omega), trivial⟩ ⟨by omega, (by rw [de_lo (by omega)]; exact hS)⟩ (by omega)
    · skip
      try simp only [SB] at hc2
      refine wc_skip ?_
      refine wq_then ?_
      refine rg ?_
      refine la 0 ag164 hS rfl rfl rfl rfl (BV_size _) ?_
      refine cv cf121 hS rfl rfl rfl rfl rfl (sp_mooringref06_Shift ((addG (deG key b j) (seg8 16 (expand key) ((10 - j) * 16)))) _) ?_
      intro w hS
      refine cv cf121 hS rfl rfl rfl rfl rfl (sp_mooringref06_Shift ((shG (addG (deG key b j) (seg8 16 (expand key) ((10 - j) * 16))))) _) ?_
      intro w hS
      refine cv cf121 hS rfl rfl rfl rfl rfl (sp_mooringref06_Shift ((shG (shG (addG (deG key b j) (seg8 16 (expand key) ((10 - j) * 16)))))) _) ?_
      intro w hS
      refine sa 0 ag164 hS rfl rfl rfl (BV_one _) rfl (BV_size _) (BV_size _) ?_
      intro w hS
      refine wq_then ?_
      refine wc_region ?_
      refine la 0 ag164 hS rfl rfl rfl rfl (BV_size _) ?_
      refine la 1 ag46 hS rfl rfl rfl rfl (BV_size _) ?_
      refine cv cf122 hS rfl rfl rfl rfl rfl (sp_mooringref06_Sub ((shG (shG (shG (addG (deG key b j) (seg8 16 (expand key) ((10 - j) * 16))))))) ((trR sboxV 256)) _) ?_
      intro w hS
      refine sa 0 ag164 hS rfl rfl rfl (BV_one _) rfl (BV_size _) (BV_size _) ?_
      intro w hS
      refine q_block_norm ?_
      refine wq_then ?_
      refine wc_region ?_
      refine mv rfl rfl rfl ?_
      refine subi (by omega) (by omega) rfl rfl rfl rfl ?_
      refine asg rfl rfl rfl ?_
      refine again_q (j + 1) ⟨rfl, rfl, rfl, rfl, lkI rfl (by omega), trivial⟩ ⟨by omega, (by rw [de_hi (by omega)]; exact hS)⟩ (by omega)
  · skip
    try simp only [SB] at hc1
    refine wc_exit ?_
    refine q_then_exit ?_
    refine q_then_exit ?_
    refine q_block_hit ?_
    refine wq_then ?_
    refine rg ?_
    refine la 0 ag164 hS rfl rfl rfl rfl (BV_size _) ?_
    refine fan (0) (0) Tryz.underlying48 rfl sz45 (by decide) rfl rfl rfl rfl (by omega) ?_
    refine ian (0) (0) Tryz.underlying45 sz22 rfl rfl rfl rfl (by omega) (by omega) (by omega) ?_
    refine lp (u := .agg (BV (seg8 16 (expand key) 0))) 4 ag22 hS rfl rfl rfl rfl (le_sz (a := 432) (cat_size (a := 176) (b := 256) (BV_size _) (BV_size _)) (by omega)) (cat_xl (a := 176) (BV_size _) (by omega) (BV_extract 16 _ 0 (by omega))) rfl ?_
    refine cv cf119 hS rfl rfl rfl rfl rfl (sp_mooringref06_Add ((deG key b j)) ((seg8 16 (expand key) 0)) _) ?_
    intro w hS
    refine cv cf124 hS rfl rfl rfl rfl rfl (sp_mooringref06_Block ((addG (deG key b j) (seg8 16 (expand key) 0))) _) ?_
    intro w hS
    refine sa 2 ag22 hS rfl rfl rfl (BV_one _) rfl (BV_size _) (BV_size _) ?_
    intro w hS
    refine wq_then ?_
    refine wc_ret ?_
    refine fin1 (v := .agg (BV (blG (addG (deG key b j) (seg8 16 (expand key) 0))))) rfl ⟨_, rfl, lv_a ag22 (hS.get 2 rfl) (BV_size _)⟩ ?_
    refine ⟨?_, hS.drop⟩
    have hj : j = 10 := by omega
    rw [hj]
    exact congrArg (fun x => Ending.returned (.agg (BV x))) (decG_dec key b)
end Go.Proofs.XZ

/- walks -/
namespace Go.Proofs.XZ
open Go Go.X Go.Proofs
set_option maxRecDepth 100000 in
set_option maxHeartbeats 1000000 in
theorem sp_mooringref13_Decrypt (key : V8 16) (nonce : V8 12) (a : Option Addr) (n cap : Nat) (bs : List UInt8) (w0 : World) (hn : bs.length = n) (hN : n ≤ 1000000) (hc : Cel w0 a (c8 bs)) (hcap : n ≤ cap) (h4 : n ≤ 4000) : Calls Tryz.prog 66 #[.agg (BV (expand key) ++ BV sboxV), .agg (BV nonce), .slice a n cap] w0 (RetS w0 (fun v X => ∃ a' c', v = .slice a' n c' ∧ Own 1 a' n c' (c8 (decT key nonce bs)) X)) := by
  refine enter (args := [.agg (BV (expand key) ++ BV sboxV), .agg (BV nonce), .slice a n cap]) Tryz.func66 rfl rfl ?_
  refine startw fun w hS => ?_
  refine rg ?_
  refine bxa hS rfl rfl rfl ?_
  intro b3 w hb3 hS
  refine bxa hS rfl rfl rfl ?_
  intro b4 w hb4 hS
  refine asg rfl rfl rfl ?_
  refine wq_then ?_
  refine rg ?_
  refine la 1 ag48 hS rfl rfl rfl rfl (cat_size (a := 176) (b := 256) (BV_size _) (BV_size _)) ?_
  refine cv cf90 hS rfl rfl rfl rfl rfl (sp_mooringref09_Star (key) _) ?_
  intro w hS
  refine ala zr22 hS rfl rfl ?_
  intro b7 w hb7 hS
  refine sa 0 ag22 hS rfl rfl rfl (BV_one _) rfl (BV_size _) (BV_size _) ?_
  intro w hS
  refine wq_then ?_
  refine rg ?_
  refine la 2 ag48 hS rfl rfl rfl rfl (cat_size (a := 176) (b := 256) (BV_size _) (BV_size _)) ?_
  refine la 1 ag81 hS rfl rfl rfl rfl (BV_size _) ?_
  refine cv cf91 hS rfl rfl rfl rfl rfl (sp_mooringref10_Start (key) (nonce) _) ?_
  intro w hS
  refine ala zr22 hS rfl rfl ?_
  intro b8 w hb8 hS
  refine sa 0 ag22 hS rfl rfl rfl (BV_one _) rfl (BV_size _) (BV_size _) ?_
  intro w hS
  refine wq_then ?_
  refine rg ?_
  refine asg rfl rfl rfl ?_
  refine wq_then ?_
  refine rg ?_
  refine mv rfl rfl rfl ?_
  refine lens Tryz.underlying25 rfl rfl rfl ?_
  refine quoi (by omega) (by omega) (by omega) rfl rfl rfl rfl ?_
  refine asg rfl rfl rfl ?_
  refine wq_then ?_
  refine wc_seq ?_
  refine rg ?_
  refine asg rfl rfl rfl ?_
  refine wq_then ?_
  refine wc_block ?_
  refine wc_loop (σ := (Nat × Option Addr × Nat × List (Nat × Obj))) (fun s => [(2, .slice a n cap), (3, Ptr b3 0), (6, (.slice none 0 0)), (7, Ptr b7 0), (8, Ptr b8 0), (9, .slice s.2.1 (s.1 * 16) s.2.2.1), (10, I (((n : Nat) : Int) / 16)), (11, I ((s.1 : Int)))])
    (fun s w => (s.1 ≤ n / 16 ∧ Own 1 s.2.1 (s.1 * 16) s.2.2.1 (c8 (deT key nonce bs s.1)) s.2.2.2) ∧ St w0 [] ([(b8, .cells (BV (crO key nonce s.1)) 22), (b7, .cells (BV (star key)) 22), (b4, .cells (BV nonce) 81), (b3, .cells (BV (expand key) ++ BV sboxV) 48)] ++ (s.2.2.2 ++ [])) w) (fun s => n / 16 - s.1) (0, none, 0, []) ⟨rfl, rfl, rfl, rfl, rfl, rfl, rfl, rfl, trivial⟩ ⟨⟨by omega, Own.nil 1⟩, (hS.napp)⟩ ?_
  rintro s w ⟨⟨hk, hO⟩, hS⟩
  refine wc_seq ?_
  refine rg ?_
  refine mv rfl rfl rfl ?_
  refine mv rfl rfl rfl ?_
  refine lss rfl rfl rfl rfl ?_
  refine wq_then ?_
  refine wc_if rfl (fun hc1 => ?_) (fun hc1 => ?_)
  · skip
    try simp only [SB] at hc1
    refine wc_skip ?_
    refine wq_then ?_
    refine wc_seq ?_
    refine wc_block ?_
    refine rd mo 7 (fun w => St w0 [] ([(b8, .cells (BV (crO key nonce s.1)) 22), (b7, .cells (BV (star key)) 22), (b4, .cells (BV nonce) 81), (b3, .cells (BV (expand key) ++ BV sboxV) 48)] ++ (s.2.2.2 ++ [])) w) ?_
    have hS := hS.drew
    refine dq 0 rfl (by kernel_rfl) (by kernel_rfl) (by kernel_rfl) rfl rfl (fun w hS => la 0 ag22 hS rfl rfl rfl rfl (BV_size _) ⟨rfl, rfl⟩) hS ?_
    refine dq 1 rfl (by kernel_rfl) (by kernel_rfl) (by kernel_rfl) rfl rfl (fun w hS => la 1 ag22 hS rfl rfl rfl rfl (BV_size _) ⟨rfl, rfl⟩) hS ?_
    refine dq 2 rfl (by kernel_rfl) (by kernel_rfl) (by kernel_rfl) rfl rfl (fun w hS => mv rfl rfl rfl ⟨rfl, rfl⟩) hS ?_
    refine dq 3 rfl (by kernel_rfl) (by kernel_rfl) (by kernel_rfl) rfl rfl (fun w hS => addi (by omega) (by omega) rfl rfl rfl rfl ⟨rfl, rfl⟩) hS ?_
    refine dq 4 rfl (by kernel_rfl) (by kernel_rfl) (by kernel_rfl) rfl rfl (fun w hS => cvu64 Tryz.underlying23 ⟨_, Tryz.underlying3⟩ rfl rfl rfl ⟨rfl, rfl⟩) hS ?_
    refine dl 5 rfl (by kernel_rfl) ?_
    refine cv cf94 hS rfl rfl rfl rfl rfl (sp_mooringref09_For (key) (s.1 + 1) ((star key)) ((toU64 ((s.1 : Int) + 1))) _ rfl rfl (by omega) (by omega)) ?_
    intro w hS
    refine ⟨fun _ => hS, ?_⟩
    refine dl 6 rfl (by kernel_rfl) ?_
    refine cv (v := .agg (BV (crO key nonce (s.1 + 1)))) cf93 hS rfl rfl rfl rfl rfl (sp_mooringref08_Xor ((crO key nonce s.1)) ((forN key (toU64 ((s.1 + 1 : Nat) : Int)))) _) ?_
    intro w hS
    refine ⟨fun _ => hS, ?_⟩
    refine dl 7 rfl (by kernel_rfl) ?_
    refine sa 0 ag22 hS rfl rfl rfl (BV_one _) rfl (BV_size _) (BV_size _) ?_
    intro w hS
    refine ⟨fun h => (by cases h), ?_⟩
    refine de (by kernel_rfl) ?_
    refine wq_then ?_
    refine rd mo 10 (fun w => St w0 [] ([(b8, .cells (BV (crO key nonce (s.1 + 1))) 22), (b7, .cells (BV (star key)) 22), (b4, .cells (BV nonce) 81), (b3, .cells (BV (expand key) ++ BV sboxV) 48)] ++ (s.2.2.2 ++ [])) w) ?_
    have hS := hS.drew
    refine dq 0 rfl (by kernel_rfl) (by kernel_rfl) (by kernel_rfl) rfl rfl (fun w hS => la 3 ag48 hS rfl rfl rfl rfl (cat_size (a := 176) (b := 256) (BV_size _) (BV_size _)) ⟨rfl, rfl⟩) hS ?_
    refine dq 1 rfl (by kernel_rfl) (by kernel_rfl) (by kernel_rfl) rfl rfl (fun w hS => mv rfl rfl rfl ⟨rfl, rfl⟩) hS ?_
    refine dq 2 rfl (by kernel_rfl) (by kernel_rfl) (by kernel_rfl) rfl rfl (fun w hS => mv rfl rfl rfl ⟨rfl, rfl⟩) hS ?_
    refine dq 4 rfl (by kernel_rfl) (by kernel_rfl) (by kernel_rfl) rfl rfl (fun w hS => la 0 ag22 hS rfl rfl rfl rfl (BV_size _) ⟨rfl, rfl⟩) hS ?_
    refine dq 7 rfl (by kernel_rfl) (by kernel_rfl) (by kernel_rfl) rfl rfl (fun w hS => la 0 ag22 hS rfl rfl rfl rfl (BV_size _) ⟨rfl, rfl⟩) hS ?_
    refine dl2 3 9 rfl rfl (by kernel_rfl) ?_ ?_
    · skip
      refine cv cf92 hS rfl rfl rfl rfl rfl (sp_mooringref08_Part (a) (n) (cap) (bs) (s.1) _ _ (by omega) (by first | rfl | omega | (simp; omega) | (simp; done)) (by omega) (hc.st hS) (by omega) (by omega)) ?_
      intro w hS
      refine ⟨fun _ => hS, ?_⟩
      refine dl2 5 9 rfl rfl (by kernel_rfl) ?_ ?_
      · skip
        refine cv cf93 hS rfl rfl rfl rfl rfl (sp_mooringref08_Xor ((blk bs s.1)) ((crO key nonce (s.1 + 1))) _) ?_
        intro w hS
        refine ⟨fun _ => hS, ?_⟩
        refine dl2 6 9 rfl rfl (by kernel_rfl) ?_ ?_
        · skip
          refine cv cf100 hS rfl rfl rfl rfl rfl (sp_mooringref13_Block (key) ((xorV (blk bs s.1) (crO key nonce (s.1 + 1)))) _) ?_
          intro w hS
          refine ⟨fun _ => hS, ?_⟩
          refine dl2 8 9 rfl rfl (by kernel_rfl) ?_ ?_
          · skip
            refine cv (v := .agg (BV (deB key nonce bs s.1))) cf93 hS rfl rfl rfl rfl rfl (sp_mooringref08_Xor2 ((dec key (xorV (blk bs s.1) (crO key nonce (s.1 + 1))))) ((crO key nonce (s.1 + 1))) _) ?_
            intro w hS
            refine ⟨fun _ => hS, ?_⟩
            refine dl 9 rfl (by kernel_rfl) ?_
            refine ala zr22 hS rfl rfl ?_
            intro b12 w hb12 hS
            refine ⟨fun _ => hS.tl, ?_⟩
            refine dl 10 rfl (by kernel_rfl) ?_
            refine sa 0 ag22 hS rfl rfl rfl (BV_one _) rfl (BV_size _) (BV_size _) ?_
            intro w hS
            refine ⟨fun h => (by cases h), ?_⟩
            refine de (by kernel_rfl) ?_
            refine wq_then ?_
            refine wc_region ?_
            refine mv rfl rfl rfl ?_
            refine a_all Tryz.underlying22 ⟨_, sz5⟩ rfl rfl rfl ?_
            refine app (A := [(b12, .cells (BV (deB key nonce bs s.1)) 22), (b8, .cells (BV (crO key nonce (s.1 + 1))) 22), (b7, .cells (BV (star key)) 22), (b4, .cells (BV nonce) 81), (b3, .cells (BV (expand key) ++ BV sboxV) 48)]) (R := []) sl25 hO hS rfl rfl rfl rfl (src8 Tryz.underlying25 _ (Cel.bv (hS.get 0 rfl)) Vector.length_toList) (by omega) (by omega) ?_
            intro a46 c46 X46 w hO46 hS
            try simp only [c8_app] at hO46
            refine asg rfl rfl rfl ?_
            refine q_block_norm ?_
            refine wq_then ?_
            refine wc_region ?_
            refine mv rfl rfl rfl ?_
            refine addi (by omega) (by omega) rfl rfl rfl rfl ?_
            refine asg rfl rfl rfl ?_
            have e16 : s.1 * 16 + 16 = (s.1 + 1) * 16 := by omega
            rw [e16] at hO46 ⊢
            refine again_q (s.1 + 1, a46, c46, X46) ⟨rfl, rfl, rfl, rfl, rfl, rfl, rfl, lkI rfl (by first | omega | rfl), trivial⟩ ⟨⟨by omega, hO46⟩, hS.tl⟩ (by omega)
          · skip
            refine ala zr22 hS rfl rfl ?_
            intro b12 w hb12 hS
            refine ⟨fun _ => hS.tl, ?_⟩
            refine dl 8 rfl (by kernel_rfl) ?_
            refine cv (v := .agg (BV (deB key nonce bs s.1))) cf93 hS rfl rfl rfl rfl rfl (sp_mooringref08_Xor2 ((dec key (xorV (blk bs s.1) (crO key nonce (s.1 + 1))))) ((crO key nonce (s.1 + 1))) _) ?_
            intro w hS
            refine ⟨fun _ => hS.tl, ?_⟩
            refine dl 10 rfl (by kernel_rfl) ?_
            refine sa 0 ag22 hS rfl rfl rfl (BV_one _) rfl (BV_size _) (BV_size _) ?_
            intro w hS
            refine ⟨fun h => (by cases h), ?_⟩
            refine de (by kernel_rfl) ?_
            refine wq_then ?_
            refine wc_region ?_
            refine mv rfl rfl rfl ?_
            refine a_all Tryz.underlying22 ⟨_, sz5⟩ rfl rfl rfl ?_
            refine app (A := [(b12, .cells (BV (deB key nonce bs s.1)) 22), (b8, .cells (BV (crO key nonce (s.1 + 1))) 22), (b7, .cells (BV (star key)) 22), (b4, .cells (BV nonce) 81), (b3, .cells (BV (expand key) ++ BV sboxV) 48)]) (R := []) sl25 hO hS rfl rfl rfl rfl (src8 Tryz.underlying25 _ (Cel.bv (hS.get 0 rfl)) Vector.length_toList) (by omega) (by omega) ?_
            intro a46 c46 X46 w hO46 hS
            try simp only [c8_app] at hO46
            refine asg rfl rfl rfl ?_
            refine q_block_norm ?_
            refine wq_then ?_
            refine wc_region ?_
            refine mv rfl rfl rfl ?_
            refine addi (by omega) (by omega) rfl rfl rfl rfl ?_
            refine asg rfl rfl rfl ?_
            have e16 : s.1 * 16 + 16 = (s.1 + 1) * 16 := by omega
            rw [e16] at hO46 ⊢
            refine again_q (s.1 + 1, a46, c46, X46) ⟨rfl, rfl, rfl, rfl, rfl, rfl, rfl, lkI rfl (by first | omega | rfl), trivial⟩ ⟨⟨by omega, hO46⟩, hS.tl⟩ (by omega)
        · skip
          refine ala zr22 hS rfl rfl ?_
          intro b12 w hb12 hS
          refine ⟨fun _ => hS.tl, ?_⟩
          refine dl 6 rfl (by kernel_rfl) ?_
          refine cv cf100 hS rfl rfl rfl rfl rfl (sp_mooringref13_Block (key) ((xorV (blk bs s.1) (crO key nonce (s.1 + 1)))) _) ?_
          intro w hS
          refine ⟨fun _ => hS.tl, ?_⟩
          refine dl 8 rfl (by kernel_rfl) ?_
          refine cv (v := .agg (BV (deB key nonce bs s.1))) cf93 hS rfl rfl rfl rfl rfl (sp_mooringref08_Xor2 ((dec key (xorV (blk bs s.1) (crO key nonce (s.1 + 1))))) ((crO key nonce (s.1 + 1))) _) ?_
          intro w hS
          refine ⟨fun _ => hS.tl, ?_⟩
          refine dl 10 rfl (by kernel_rfl) ?_
          refine sa 0 ag22 hS rfl rfl rfl (BV_one _) rfl (BV_size _) (BV_size _) ?_
          intro w hS
          refine ⟨fun h => (by cases h), ?_⟩
          refine de (by kernel_rfl) ?_
          refine wq_then ?_
          refine wc_region ?_
          refine mv rfl rfl rfl ?_
          refine a_all Tryz.underlying22 ⟨_, sz5⟩ rfl rfl rfl ?_
          refine app (A := [(b12, .cells (BV (deB key nonce bs s.1)) 22), (b8, .cells (BV (crO key nonce (s.1 + 1))) 22), (b7, .cells (BV (star key)) 22), (b4, .cells (BV nonce) 81), (b3, .cells (BV (expand key) ++ BV sboxV) 48)]) (R := []) sl25 hO hS rfl rfl rfl rfl (src8 Tryz.underlying25 _ (Cel.bv (hS.get 0 rfl)) Vector.length_toList) (by omega) (by omega) ?_
          intro a46 c46 X46 w hO46 hS
          try simp only [c8_app] at hO46
          refine asg rfl rfl rfl ?_
          refine q_block_norm ?_
          refine wq_then ?_
          refine wc_region ?_
          refine mv rfl rfl rfl ?_
          refine addi (by omega) (by omega) rfl rfl rfl rfl ?_
          refine asg rfl rfl rfl ?_
          have e16 : s.1 * 16 + 16 = (s.1 + 1) * 16 := by omega
          rw [e16] at hO46 ⊢
          refine again_q (s.1 + 1, a46, c46, X46) ⟨rfl, rfl, rfl, rfl, rfl, rfl, rfl, lkI rfl (by first | omega | rfl), trivial⟩ ⟨⟨by omega, hO46⟩, hS.tl⟩ (by omega)
      · skip
        refine ala zr22 hS rfl rfl ?_
        intro b12 w hb12 hS
        refine ⟨fun _ => hS.tl, ?_⟩
        refine dl 5 rfl (by kernel_rfl) ?_
        refine cv cf93 hS rfl rfl rfl rfl rfl (sp_mooringref08_Xor ((blk bs s.1)) ((crO key nonce (s.1 + 1))) _) ?_
        intro w hS
        refine ⟨fun _ => hS.tl, ?_⟩
        refine dl 6 rfl (by kernel_rfl) ?_
        refine cv cf100 hS rfl rfl rfl rfl rfl (sp_mooringref13_Block (key) ((xorV (blk bs s.1) (crO key nonce (s.1 + 1)))) _) ?_
        intro w hS
        refine ⟨fun _ => hS.tl, ?_⟩
        refine dl 8 rfl (by kernel_rfl) ?_
        refine cv (v := .agg (BV (deB key nonce bs s.1))) cf93 hS rfl rfl rfl rfl rfl (sp_mooringref08_Xor2 ((dec key (xorV (blk bs s.1) (crO key nonce (s.1 + 1))))) ((crO key nonce (s.1 + 1))) _) ?_
        intro w hS
        refine ⟨fun _ => hS.tl, ?_⟩
        refine dl 10 rfl (by kernel_rfl) ?_
        refine sa 0 ag22 hS rfl rfl rfl (BV_one _) rfl (BV_size _) (BV_size _) ?_
        intro w hS
        refine ⟨fun h => (by cases h), ?_⟩
        refine de (by kernel_rfl) ?_
        refine wq_then ?_
        refine wc_region ?_
        refine mv rfl rfl rfl ?_
        refine a_all Tryz.underlying22 ⟨_, sz5⟩ rfl rfl rfl ?_
        refine app (A := [(b12, .cells (BV (deB key nonce bs s.1)) 22), (b8, .cells (BV (crO key nonce (s.1 + 1))) 22), (b7, .cells (BV (star key)) 22), (b4, .cells (BV nonce) 81), (b3, .cells (BV (expand key) ++ BV sboxV) 48)]) (R := []) sl25 hO hS rfl rfl rfl rfl (src8 Tryz.underlying25 _ (Cel.bv (hS.get 0 rfl)) Vector.length_toList) (by omega) (by omega) ?_
        intro a46 c46 X46 w hO46 hS
        try simp only [c8_app] at hO46
        refine asg rfl rfl rfl ?_
        refine q_block_norm ?_
        refine wq_then ?_
        refine wc_region ?_
        refine mv rfl rfl rfl ?_
        refine addi (by omega) (by omega) rfl rfl rfl rfl ?_
        refine asg rfl rfl rfl ?_
        have e16 : s.1 * 16 + 16 = (s.1 + 1) * 16 := by omega
        rw [e16] at hO46 ⊢
        refine again_q (s.1 + 1, a46, c46, X46) ⟨rfl, rfl, rfl, rfl, rfl, rfl, rfl, lkI rfl (by first | omega | rfl), trivial⟩ ⟨⟨by omega, hO46⟩, hS.tl⟩ (by omega)
    · skip
      refine ala zr22 hS rfl rfl ?_
      intro b12 w hb12 hS
      refine ⟨fun _ => hS.tl, ?_⟩
      refine dl 3 rfl (by kernel_rfl) ?_
      refine cv cf92 hS rfl rfl rfl rfl rfl (sp_mooringref08_Part (a) (n) (cap) (bs) (s.1) _ _ (by omega) (by first | rfl | omega | (simp; omega) | (simp; done)) (by omega) (hc.st hS) (by omega) (by omega)) ?_
      intro w hS
      refine ⟨fun _ => hS.tl, ?_⟩
      refine dl 5 rfl (by kernel_rfl) ?_
      refine cv cf93 hS rfl rfl rfl rfl rfl (sp_mooringref08_Xor ((blk bs s.1)) ((crO key nonce (s.1 + 1))) _) ?_
      intro w hS
      refine ⟨fun _ => hS.tl, ?_⟩
      refine dl 6 rfl (by kernel_rfl) ?_
      refine cv cf100 hS rfl rfl rfl rfl rfl (sp_mooringref13_Block (key) ((xorV (blk bs s.1) (crO key nonce (s.1 + 1)))) _) ?_
      intro w hS
      refine ⟨fun _ => hS.tl, ?_⟩
      refine dl 8 rfl (by kernel_rfl) ?_
      refine cv (v := .agg (BV (deB key nonce bs s.1))) cf93 hS rfl rfl rfl rfl rfl (sp_mooringref08_Xor2 ((dec key (xorV (blk bs s.1) (crO key nonce (s.1 + 1))))) ((crO key nonce (s.1 + 1))) _) ?_
      intro w hS
      refine ⟨fun _ => hS.tl, ?_⟩
      refine dl 10 rfl (by kernel_rfl) ?_
      refine sa 0 ag22 hS rfl rfl rfl (BV_one _) rfl (BV_size _) (BV_size _) ?_
      intro w hS
      refine ⟨fun h => (by cases h), ?_⟩
      refine de (by kernel_rfl) ?_
      refine wq_then ?_
      refine wc_region ?_
      refine mv rfl rfl rfl ?_
      refine a_all Tryz.underlying22 ⟨_, sz5⟩ rfl rfl rfl ?_
      refine app (A := [(b12, .cells (BV (deB key nonce bs s.1)) 22), (b8, .cells (BV (crO key nonce (s.1 + 1))) 22), (b7, .cells (BV (star key)) 22), (b4, .cells (BV nonce) 81), (b3, .cells (BV (expand key) ++ BV sboxV) 48)]) (R := []) sl25 hO hS rfl rfl rfl rfl (src8 Tryz.underlying25 _ (Cel.bv (hS.get 0 rfl)) Vector.length_toList) (by omega) (by omega) ?_
      intro a46 c46 X46 w hO46 hS
      try simp only [c8_app] at hO46
      refine asg rfl rfl rfl ?_
      refine q_block_norm ?_
      refine wq_then ?_
      refine wc_region ?_
      refine mv rfl rfl rfl ?_
      refine addi (by omega) (by omega) rfl rfl rfl rfl ?_
      refine asg rfl rfl rfl ?_
      have e16 : s.1 * 16 + 16 = (s.1 + 1) * 16 := by omega
      rw [e16] at hO46 ⊢
      refine again_q (s.1 + 1, a46, c46, X46) ⟨rfl, rfl, rfl, rfl, rfl, rfl, rfl, lkI rfl (by first | omega | rfl), trivial⟩ ⟨⟨by omega, hO46⟩, hS.tl⟩ (by omega)
  · skip
    try simp only [SB] at hc1
    have hk4 : s.1 = n / 16 := by omega
    rw [hk4] at hS hO ⊢
    refine wc_exit ?_
    refine q_then_exit ?_
    refine q_then_exit ?_
    refine q_block_hit ?_
    refine wq_then ?_
    refine rd mo 6 (fun w => St w0 [] ([(b8, .cells (BV (crO key nonce (n / 16))) 22), (b7, .cells (BV (star key)) 22), (b4, .cells (BV nonce) 81), (b3, .cells (BV (expand key) ++ BV sboxV) 48)] ++ (s.2.2.2 ++ [])) w) ?_
    have hS := hS.drew
    refine dq 0 rfl (by kernel_rfl) (by kernel_rfl) (by kernel_rfl) rfl rfl (fun w hS => la 3 ag48 hS rfl rfl rfl rfl (cat_size (a := 176) (b := 256) (BV_size _) (BV_size _)) ⟨rfl, rfl⟩) hS ?_
    refine dq 1 rfl (by kernel_rfl) (by kernel_rfl) (by kernel_rfl) rfl rfl (fun w hS => la 0 ag22 hS rfl rfl rfl rfl (BV_size _) ⟨rfl, rfl⟩) hS ?_
    refine dq 2 rfl (by kernel_rfl) (by kernel_rfl) (by kernel_rfl) rfl rfl (fun w hS => la 1 ag22 hS rfl rfl rfl rfl (BV_size _) ⟨rfl, rfl⟩) hS ?_
    refine dl2 3 5 rfl rfl (by kernel_rfl) ?_ ?_
    · skip
      refine cv cf93 hS rfl rfl rfl rfl rfl (sp_mooringref08_Xor ((crO key nonce (n / 16))) ((star key)) _) ?_
      intro w hS
      refine ⟨fun _ => hS, ?_⟩
      refine dl2 4 5 rfl rfl (by kernel_rfl) ?_ ?_
      · skip
        refine cv cf95 hS rfl rfl rfl rfl rfl (sp_mooringref06_Encrypt (key) ((xorV (crO key nonce (n / 16)) (star key))) _) ?_
        intro w hS
        refine ⟨fun _ => hS, ?_⟩
        refine dl 5 rfl (by kernel_rfl) ?_
        refine ala zr22 hS rfl rfl ?_
        intro b13 w hb13 hS
        refine ⟨fun _ => hS.tl, ?_⟩
        refine dl 6 rfl (by kernel_rfl) ?_
        refine sa 0 ag22 hS rfl rfl rfl (BV_one _) rfl (BV_size _) (BV_size _) ?_
        intro w hS
        refine ⟨fun h => (by cases h), ?_⟩
        refine de (by kernel_rfl) ?_
        refine wq_then ?_
        refine wc_seq ?_
        refine rg ?_
        refine mv rfl rfl rfl ?_
        refine muli (by omega) (by omega) rfl rfl rfl rfl ?_
        refine asg rfl rfl rfl ?_
        refine wq_then ?_
        refine wc_block ?_
        refine wc_loop (σ := (Nat × Option Addr × Nat × List (Nat × Obj))) (fun u => [(2, .slice a n cap), (6, (.slice none 0 0)), (9, .slice u.2.1 (n / 16 * 16 + u.1) u.2.2.1), (10, I (((n : Nat) : Int) / 16)), (13, Ptr b13 0), (14, I (((16 * (n / 16) + u.1 : Nat) : Int)))])
          (fun u w => (16 * (n / 16) + u.1 ≤ n ∧ Own 1 u.2.1 (n / 16 * 16 + u.1) u.2.2.1 (c8 (deT key nonce bs (n / 16) ++ tlL bs (16 * (n / 16)) (enc key (xorV (crO key nonce (n / 16)) (star key))) u.1)) u.2.2.2) ∧ St w0 [] ([(b13, .cells (BV (enc key (xorV (crO key nonce (n / 16)) (star key)))) 22), (b8, .cells (BV (crO key nonce (n / 16))) 22), (b7, .cells (BV (star key)) 22), (b4, .cells (BV nonce) 81), (b3, .cells (BV (expand key) ++ BV sboxV) 48)] ++ (u.2.2.2 ++ [])) w) (fun u => n - (16 * (n / 16) + u.1)) (0, s.2.1, s.2.2.1, s.2.2.2) ⟨rfl, rfl, rfl, rfl, rfl, rfl, trivial⟩ ⟨⟨by omega, by simpa [tlL] using hO⟩, hS⟩ ?_
        rintro u w ⟨⟨hm, hO⟩, hS⟩
        refine wc_seq ?_
        refine rg ?_
        refine mv rfl rfl rfl ?_
        refine mv rfl rfl rfl ?_
        refine lens Tryz.underlying25 rfl rfl rfl ?_
        refine lss rfl rfl rfl rfl ?_
        refine wq_then ?_
        refine wc_if rfl (fun hc2 => ?_) (fun hc2 => ?_)
        · skip
          try simp only [SB] at hc2
          refine wc_skip ?_
          refine wq_then ?_
          refine wc_seq ?_
          refine wc_block ?_
          refine wc_draw mo 14 (fun w => St w0 [] [(b13, .cells (BV (enc key (xorV (crO key nonce (n / 16)) (star key)))) 22), (b8, .cells (BV (crO key nonce (n / 16))) 22), (b7, .cells (BV (star key)) 22), (b4, .cells (BV nonce) 81), (b3, .cells (BV (expand key) ++ BV sboxV) 48)] w) ?_
          have hS := hS.drew
          refine dq 0 rfl (by kernel_rfl) (by kernel_rfl) (by kernel_rfl) rfl rfl (fun w hS => mv rfl rfl rfl ⟨rfl, rfl⟩) (hS.sublist (.cons_cons _ (.cons_cons _ (.cons_cons _ (.cons_cons _ (.cons_cons _ (List.nil_sublist _))))))) ?_
          refine dq 1 rfl (by kernel_rfl) (by kernel_rfl) (by kernel_rfl) rfl rfl (fun w hS => mv rfl rfl rfl ⟨rfl, rfl⟩) (hS.sublist (.cons_cons _ (.cons_cons _ (.cons_cons _ (.cons_cons _ (.cons_cons _ (List.nil_sublist _))))))) ?_
          refine dq 2 rfl (by kernel_rfl) (by kernel_rfl) (by kernel_rfl) rfl rfl (fun w hS => mv rfl rfl rfl ⟨rfl, rfl⟩) (hS.sublist (.cons_cons _ (.cons_cons _ (.cons_cons _ (.cons_cons _ (.cons_cons _ (List.nil_sublist _))))))) ?_
          refine dq 3 rfl (by kernel_rfl) (by kernel_rfl) (by kernel_rfl) rfl rfl (fun w hS => slx (16 * (n / 16) + u.1) Tryz.underlying25 sz5 rfl rfl rfl rfl (by omega) (by omega) ((hc.st hS).some8 (j := 16 * (n / 16) + u.1) (by first | omega | (simp; done) | (simp; omega))) ⟨rfl, rfl⟩) (hS.sublist (.cons_cons _ (.cons_cons _ (.cons_cons _ (.cons_cons _ (.cons_cons _ (List.nil_sublist _))))))) ?_
          refine dq 4 rfl (by kernel_rfl) (by kernel_rfl) (by kernel_rfl) rfl rfl (fun w hS => ldx sc5 rfl rfl rfl (hc.st hS) (by first | omega | (simp; done) | (simp; omega)) ⟨rfl, rfl⟩) (hS.sublist (.cons_cons _ (.cons_cons _ (.cons_cons _ (.cons_cons _ (.cons_cons _ (List.nil_sublist _))))))) ?_
          refine dq 5 rfl (by kernel_rfl) (by kernel_rfl) (by kernel_rfl) rfl rfl (fun w hS => mv rfl rfl rfl ⟨rfl, rfl⟩) (hS.sublist (.cons_cons _ (.cons_cons _ (.cons_cons _ (.cons_cons _ (.cons_cons _ (List.nil_sublist _))))))) ?_
          refine dq 6 rfl (by kernel_rfl) (by kernel_rfl) (by kernel_rfl) rfl rfl (fun w hS => mv rfl rfl rfl ⟨rfl, rfl⟩) (hS.sublist (.cons_cons _ (.cons_cons _ (.cons_cons _ (.cons_cons _ (.cons_cons _ (List.nil_sublist _))))))) ?_
          refine dq 7 rfl (by kernel_rfl) (by kernel_rfl) (by kernel_rfl) rfl rfl (fun w hS => muli (by omega) (by omega) rfl rfl rfl rfl ⟨rfl, rfl⟩) (hS.sublist (.cons_cons _ (.cons_cons _ (.cons_cons _ (.cons_cons _ (.cons_cons _ (List.nil_sublist _))))))) ?_
          refine dq 8 rfl (by kernel_rfl) (by kernel_rfl) (by kernel_rfl) rfl rfl (fun w hS => subi (by omega) (by omega) rfl rfl rfl rfl ⟨rfl, rfl⟩) (hS.sublist (.cons_cons _ (.cons_cons _ (.cons_cons _ (.cons_cons _ (.cons_cons _ (List.nil_sublist _))))))) ?_
          refine dq 9 rfl (by kernel_rfl) (by kernel_rfl) (by kernel_rfl) rfl rfl (fun w hS => ian ((16 * (n / 16) + u.1) - (16 * (n / 16))) (((16 * (n / 16) + u.1) - (16 * (n / 16)))) Tryz.underlying22 sz5 rfl rfl rfl rfl (by omega) (by omega) (by omega) ⟨rfl, rfl⟩) (hS.sublist (.cons_cons _ (.cons_cons _ (.cons_cons _ (.cons_cons _ (.cons_cons _ (List.nil_sublist _))))))) ?_
          refine dq 10 rfl (by kernel_rfl) (by kernel_rfl) (by kernel_rfl) rfl rfl (fun w hS => lo 0 sc5 hS rfl rfl rfl rfl (BV_get _ ((16 * (n / 16) + u.1) - (16 * (n / 16))) (by omega)) ⟨rfl, rfl⟩) (hS.sublist (.cons_cons _ (.cons_cons _ (.cons_cons _ (.cons_cons _ (.cons_cons _ (List.nil_sublist _))))))) ?_
          refine dq 11 rfl (by kernel_rfl) (by kernel_rfl) (by kernel_rfl) rfl rfl (fun w hS => xor8 rfl rfl rfl rfl ⟨rfl, rfl⟩) (hS.sublist (.cons_cons _ (.cons_cons _ (.cons_cons _ (.cons_cons _ (.cons_cons _ (List.nil_sublist _))))))) ?_
          refine dl 12 rfl (by kernel_rfl) ?_
          refine bsl (cs := #[U8 ((gl bs (16 * (n / 16) + u.1)) ^^^ (gv (enc key (xorV (crO key nonce (n / 16)) (star key))) ((16 * (n / 16) + u.1) - (16 * (n / 16)))))]) sl25 hS rfl rfl rfl rfl (by kernel_rfl) ?_
          intro b72 w hb72 hS
          refine ⟨fun _ => (hS.sublist (.cons _ (.cons_cons _ (.cons_cons _ (.cons_cons _ (.cons_cons _ (.cons_cons _ (List.nil_sublist _)))))))), ?_⟩
          refine dl 13 rfl (by kernel_rfl) ?_
          refine app (A := [(b72, .cells (#[U8 ((gl bs (16 * (n / 16) + u.1)) ^^^ (gv (enc key (xorV (crO key nonce (n / 16)) (star key))) ((16 * (n / 16) + u.1) - (16 * (n / 16)))))]) 5), (b13, .cells (BV (enc key (xorV (crO key nonce (n / 16)) (star key)))) 22), (b8, .cells (BV (crO key nonce (n / 16))) 22), (b7, .cells (BV (star key)) 22), (b4, .cells (BV nonce) 81), (b3, .cells (BV (expand key) ++ BV sboxV) 48)]) (R := []) sl25 hO hS rfl rfl rfl rfl (src8 Tryz.underlying25 _ (Cel.lb (l := [(gl bs (16 * (n / 16) + u.1)) ^^^ (gv (enc key (xorV (crO key nonce (n / 16)) (star key))) ((16 * (n / 16) + u.1) - (16 * (n / 16))))]) (hS.get 0 rfl)) (by first | rfl | omega | (simp; omega) | (simp; done))) (by omega) (by omega) ?_
          intro a73 c73 X73 w hO73 hS
          try simp only [c8_app] at hO73
          refine ⟨fun _ => (hS.sublist (.cons _ (.cons_cons _ (.cons_cons _ (.cons_cons _ (.cons_cons _ (.cons_cons _ (List.nil_sublist _)))))))), ?_⟩
          refine dl 14 rfl (by kernel_rfl) ?_
          refine asg rfl rfl rfl ?_
          refine ⟨fun h => (by cases h), ?_⟩
          refine de (by kernel_rfl) ?_
          refine q_block_norm ?_
          refine wq_then ?_
          refine wc_region ?_
          refine mv rfl rfl rfl ?_
          refine addi (by omega) (by omega) rfl rfl rfl rfl ?_
          refine asg rfl rfl rfl ?_
          refine again_q (u.1 + 1, a73, c73, X73) ⟨rfl, rfl, rfl, rfl, rfl, lkI rfl (by first | omega | rfl), trivial⟩ ⟨⟨by omega, by have h := hO73; rw [List.append_assoc] at h; exact h⟩, hS.tl⟩ (by omega)
        · skip
          try simp only [SB] at hc2
          refine wc_exit ?_
          refine q_then_exit ?_
          refine q_then_exit ?_
          refine q_block_hit ?_
          refine wq_then ?_
          refine rg ?_
          refine mv rfl rfl rfl ?_
          refine asg rfl rfl rfl ?_
          refine wq_then ?_
          refine wc_ret ?_
          refine fin1 (v := .slice u.2.1 (n / 16 * 16 + u.1) u.2.2.1) rfl rfl ?_
          have hm2 : u.1 = n - 16 * (n / 16) := by omega
          have e : n / 16 * 16 + (n - 16 * (n / 16)) = n := by omega
          rw [hm2, e, decT_1 hn] at hO
          exact ⟨_, _, rfl, ⟨_, _, by rw [hm2, e], hO⟩, hS.sublist (.cons _ (.cons _ (.cons _ (.cons _ (.cons _ (List.sublist_append_left u.2.2.2 []))))))⟩
      · skip
        refine ala zr22 hS rfl rfl ?_
        intro b13 w hb13 hS
        refine ⟨fun _ => hS.tl, ?_⟩
        refine dl 4 rfl (by kernel_rfl) ?_
        refine cv cf95 hS rfl rfl rfl rfl rfl (sp_mooringref06_Encrypt (key) ((xorV (crO key nonce (n / 16)) (star key))) _) ?_
        intro w hS
        refine ⟨fun _ => hS.tl, ?_⟩
        refine dl 6 rfl (by kernel_rfl) ?_
        refine sa 0 ag22 hS rfl rfl rfl (BV_one _) rfl (BV_size _) (BV_size _) ?_
        intro w hS
        refine ⟨fun h => (by cases h), ?_⟩
        refine de (by kernel_rfl) ?_
        refine wq_then ?_
        refine wc_seq ?_
        refine rg ?_
        refine mv rfl rfl rfl ?_
        refine muli (by omega) (by omega) rfl rfl rfl rfl ?_
        refine asg rfl rfl rfl ?_
        refine wq_then ?_
        refine wc_block ?_
        refine wc_loop (σ := (Nat × Option Addr × Nat × List (Nat × Obj))) (fun u => [(2, .slice a n cap), (6, (.slice none 0 0)), (9, .slice u.2.1 (n / 16 * 16 + u.1) u.2.2.1), (10, I (((n : Nat) : Int) / 16)), (13, Ptr b13 0), (14, I (((16 * (n / 16) + u.1 : Nat) : Int)))])
          (fun u w => (16 * (n / 16) + u.1 ≤ n ∧ Own 1 u.2.1 (n / 16 * 16 + u.1) u.2.2.1 (c8 (deT key nonce bs (n / 16) ++ tlL bs (16 * (n / 16)) (enc key (xorV (crO key nonce (n / 16)) (star key))) u.1)) u.2.2.2) ∧ St w0 [] ([(b13, .cells (BV (enc key (xorV (crO key nonce (n / 16)) (star key)))) 22), (b8, .cells (BV (crO key nonce (n / 16))) 22), (b7, .cells (BV (star key)) 22), (b4, .cells (BV nonce) 81), (b3, .cells (BV (expand key) ++ BV sboxV) 48)] ++ (u.2.2.2 ++ [])) w) (fun u => n - (16 * (n / 16) + u.1)) (0, s.2.1, s.2.2.1, s.2.2.2) ⟨rfl, rfl, rfl, rfl, rfl, rfl, trivial⟩ ⟨⟨by omega, by simpa [tlL] using hO⟩, hS⟩ ?_
        rintro u w ⟨⟨hm, hO⟩, hS⟩
        refine wc_seq ?_
        refine rg ?_
        refine mv rfl rfl rfl ?_
        refine mv rfl rfl rfl ?_
        refine lens Tryz.underlying25 rfl rfl rfl ?_
        refine lss rfl rfl rfl rfl ?_
        refine wq_then ?_
        refine wc_if rfl (fun hc3 => ?_) (fun hc3 => ?_)
        · skip
          try simp only [SB] at hc3
          refine wc_skip ?_
          refine wq_then ?_
          refine wc_seq ?_
          refine wc_block ?_
          refine wc_draw mo 14 (fun w => St w0 [] [(b13, .cells (BV (enc key (xorV (crO key nonce (n / 16)) (star key)))) 22), (b8, .cells (BV (crO key nonce (n / 16))) 22), (b7, .cells (BV (star key)) 22), (b4, .cells (BV nonce) 81), (b3, .cells (BV (expand key) ++ BV sboxV) 48)] w) ?_
          have hS := hS.drew
          refine dq 0 rfl (by kernel_rfl) (by kernel_rfl) (by kernel_rfl) rfl rfl (fun w hS => mv rfl rfl rfl ⟨rfl, rfl⟩) (hS.sublist (.cons_cons _ (.cons_cons _ (.cons_cons _ (.cons_cons _ (.cons_cons _ (List.nil_sublist _))))))) ?_
          refine dq 1 rfl (by kernel_rfl) (by kernel_rfl) (by kernel_rfl) rfl rfl (fun w hS => mv rfl rfl rfl ⟨rfl, rfl⟩) (hS.sublist (.cons_cons _ (.cons_cons _ (.cons_cons _ (.cons_cons _ (.cons_cons _ (List.nil_sublist _))))))) ?_
          refine dq 2 rfl (by kernel_rfl) (by kernel_rfl) (by kernel_rfl) rfl rfl (fun w hS => mv rfl rfl rfl ⟨rfl, rfl⟩) (hS.sublist (.cons_cons _ (.cons_cons _ (.cons_cons _ (.cons_cons _ (.cons_cons _ (List.nil_sublist _))))))) ?_
          refine dq 3 rfl (by kernel_rfl) (by kernel_rfl) (by kernel_rfl) rfl rfl (fun w hS => slx (16 * (n / 16) + u.1) Tryz.underlying25 sz5 rfl rfl rfl rfl (by omega) (by omega) ((hc.st hS).some8 (j := 16 * (n / 16) + u.1) (by first | omega | (simp; done) | (simp; omega))) ⟨rfl, rfl⟩) (hS.sublist (.cons_cons _ (.cons_cons _ (.cons_cons _ (.cons_cons _ (.cons_cons _ (List.nil_sublist _))))))) ?_
          refine dq 4 rfl (by kernel_rfl) (by kernel_rfl) (by kernel_rfl) rfl rfl (fun w hS => ldx sc5 rfl rfl rfl (hc.st hS) (by first | omega | (simp; done) | (simp; omega)) ⟨rfl, rfl⟩) (hS.sublist (.cons_cons _ (.cons_cons _ (.cons_cons _ (.cons_cons _ (.cons_cons _ (List.nil_sublist _))))))) ?_
          refine dq 5 rfl (by kernel_rfl) (by kernel_rfl) (by kernel_rfl) rfl rfl (fun w hS => mv rfl rfl rfl ⟨rfl, rfl⟩) (hS.sublist (.cons_cons _ (.cons_cons _ (.cons_cons _ (.cons_cons _ (.cons_cons _ (List.nil_sublist _))))))) ?_
          refine dq 6 rfl (by kernel_rfl) (by kernel_rfl) (by kernel_rfl) rfl rfl (fun w hS => mv rfl rfl rfl ⟨rfl, rfl⟩) (hS.sublist (.cons_cons _ (.cons_cons _ (.cons_cons _ (.cons_cons _ (.cons_cons _ (List.nil_sublist _))))))) ?_
          refine dq 7 rfl (by kernel_rfl) (by kernel_rfl) (by kernel_rfl) rfl rfl (fun w hS => muli (by omega) (by omega) rfl rfl rfl rfl ⟨rfl, rfl⟩) (hS.sublist (.cons_cons _ (.cons_cons _ (.cons_cons _ (.cons_cons _ (.cons_cons _ (List.nil_sublist _))))))) ?_
          refine dq 8 rfl (by kernel_rfl) (by kernel_rfl) (by kernel_rfl) rfl rfl (fun w hS => subi (by omega) (by omega) rfl rfl rfl rfl ⟨rfl, rfl⟩) (hS.sublist (.cons_cons _ (.cons_cons _ (.cons_cons _ (.cons_cons _ (.cons_cons _ (List.nil_sublist _))))))) ?_
          refine dq 9 rfl (by kernel_rfl) (by kernel_rfl) (by kernel_rfl) rfl rfl (fun w hS => ian ((16 * (n / 16) + u.1) - (16 * (n / 16))) (((16 * (n / 16) + u.1) - (16 * (n / 16)))) Tryz.underlying22 sz5 rfl rfl rfl rfl (by omega) (by omega) (by omega) ⟨rfl, rfl⟩) (hS.sublist (.cons_cons _ (.cons_cons _ (.cons_cons _ (.cons_cons _ (.cons_cons _ (List.nil_sublist _))))))) ?_
          refine dq 10 rfl (by kernel_rfl) (by kernel_rfl) (by kernel_rfl) rfl rfl (fun w hS => lo 0 sc5 hS rfl rfl rfl rfl (BV_get _ ((16 * (n / 16) + u.1) - (16 * (n / 16))) (by omega)) ⟨rfl, rfl⟩) (hS.sublist (.cons_cons _ (.cons_cons _ (.cons_cons _ (.cons_cons _ (.cons_cons _ (List.nil_sublist _))))))) ?_
          refine dq 11 rfl (by kernel_rfl) (by kernel_rfl) (by kernel_rfl) rfl rfl (fun w hS => xor8 rfl rfl rfl rfl ⟨rfl, rfl⟩) (hS.sublist (.cons_cons _ (.cons_cons _ (.cons_cons _ (.cons_cons _ (.cons_cons _ (List.nil_sublist _))))))) ?_
          refine dl 12 rfl (by kernel_rfl) ?_
          refine bsl (cs := #[U8 ((gl bs (16 * (n / 16) + u.1)) ^^^ (gv (enc key (xorV (crO key nonce (n / 16)) (star key))) ((16 * (n / 16) + u.1) - (16 * (n / 16)))))]) sl25 hS rfl rfl rfl rfl (by kernel_rfl) ?_
          intro b72 w hb72 hS
          refine ⟨fun _ => (hS.sublist (.cons _ (.cons_cons _ (.cons_cons _ (.cons_cons _ (.cons_cons _ (.cons_cons _ (List.nil_sublist _)))))))), ?_⟩
          refine dl 13 rfl (by kernel_rfl) ?_
          refine app (A := [(b72, .cells (#[U8 ((gl bs (16 * (n / 16) + u.1)) ^^^ (gv (enc key (xorV (crO key nonce (n / 16)) (star key))) ((16 * (n / 16) + u.1) - (16 * (n / 16)))))]) 5), (b13, .cells (BV (enc key (xorV (crO key nonce (n / 16)) (star key)))) 22), (b8, .cells (BV (crO key nonce (n / 16))) 22), (b7, .cells (BV (star key)) 22), (b4, .cells (BV nonce) 81), (b3, .cells (BV (expand key) ++ BV sboxV) 48)]) (R := []) sl25 hO hS rfl rfl rfl rfl (src8 Tryz.underlying25 _ (Cel.lb (l := [(gl bs (16 * (n / 16) + u.1)) ^^^ (gv (enc key (xorV (crO key nonce (n / 16)) (star key))) ((16 * (n / 16) + u.1) - (16 * (n / 16))))]) (hS.get 0 rfl)) (by first | rfl | omega | (simp; omega) | (simp; done))) (by omega) (by omega) ?_
          intro a73 c73 X73 w hO73 hS
          try simp only [c8_app] at hO73
          refine ⟨fun _ => (hS.sublist (.cons _ (.cons_cons _ (.cons_cons _ (.cons_cons _ (.cons_cons _ (.cons_cons _ (List.nil_sublist _)))))))), ?_⟩
          refine dl 14 rfl (by kernel_rfl) ?_
          refine asg rfl rfl rfl ?_
          refine ⟨fun h => (by cases h), ?_⟩
          refine de (by kernel_rfl) ?_
          refine q_block_norm ?_
          refine wq_then ?_
          refine wc_region ?_
          refine mv rfl rfl rfl ?_
          refine addi (by omega) (by omega) rfl rfl rfl rfl ?_
          refine asg rfl rfl rfl ?_
          refine again_q (u.1 + 1, a73, c73, X73) ⟨rfl, rfl, rfl, rfl, rfl, lkI rfl (by first | omega | rfl), trivial⟩ ⟨⟨by omega, by have h := hO73; rw [List.append_assoc] at h; exact h⟩, hS.tl⟩ (by omega)
        · skip
          try simp only [SB] at hc3
          refine wc_exit ?_
          refine q_then_exit ?_
          refine q_then_exit ?_
          refine q_block_hit ?_
          refine wq_then ?_
          refine rg ?_
          refine mv rfl rfl rfl ?_
          refine asg rfl rfl rfl ?_
          refine wq_then ?_
          refine wc_ret ?_
          refine fin1 (v := .slice u.2.1 (n / 16 * 16 + u.1) u.2.2.1) rfl rfl ?_
          have hm2 : u.1 = n - 16 * (n / 16) := by omega
          have e : n / 16 * 16 + (n - 16 * (n / 16)) = n := by omega
          rw [hm2, e, decT_1 hn] at hO
          exact ⟨_, _, rfl, ⟨_, _, by rw [hm2, e], hO⟩, hS.sublist (.cons _ (.cons _ (.cons _ (.cons _ (.cons _ (List.sublist_append_left u.2.2.2 []))))))⟩
    · skip
      refine ala zr22 hS rfl rfl ?_
      intro b13 w hb13 hS
      refine ⟨fun _ => hS.tl, ?_⟩
      refine dl 3 rfl (by kernel_rfl) ?_
      refine cv cf93 hS rfl rfl rfl rfl rfl (sp_mooringref08_Xor ((crO key nonce (n / 16))) ((star key)) _) ?_
      intro w hS
      refine ⟨fun _ => hS.tl, ?_⟩
      refine dl 4 rfl (by kernel_rfl) ?_
      refine cv cf95 hS rfl rfl rfl rfl rfl (sp_mooringref06_Encrypt (key) ((xorV (crO key nonce (n / 16)) (star key))) _) ?_
      intro w hS
      refine ⟨fun _ => hS.tl, ?_⟩
      refine dl 6 rfl (by kernel_rfl) ?_
      refine sa 0 ag22 hS rfl rfl rfl (BV_one _) rfl (BV_size _) (BV_size _) ?_
      intro w hS
      refine ⟨fun h => (by cases h), ?_⟩
      refine de (by kernel_rfl) ?_
      refine wq_then ?_
      refine wc_seq ?_
      refine rg ?_
      refine mv rfl rfl rfl ?_
      refine muli (by omega) (by omega) rfl rfl rfl rfl ?_
      refine asg rfl rfl rfl ?_
      refine wq_then ?_
      refine wc_block ?_
      refine wc_loop (σ := (Nat × Option Addr × Nat × List (Nat × Obj))) (fun u => [(2, .slice a n cap), (6, (.slice none 0 0)), (9, .slice u.2.1 (n / 16 * 16 + u.1) u.2.2.1), (10, I (((n : Nat) : Int) / 16)), (13, Ptr b13 0), (14, I (((16 * (n / 16) + u.1 : Nat) : Int)))])
        (fun u w => (16 * (n / 16) + u.1 ≤ n ∧ Own 1 u.2.1 (n / 16 * 16 + u.1) u.2.2.1 (c8 (deT key nonce bs (n / 16) ++ tlL bs (16 * (n / 16)) (enc key (xorV (crO key nonce (n / 16)) (star key))) u.1)) u.2.2.2) ∧ St w0 [] ([(b13, .cells (BV (enc key (xorV (crO key nonce (n / 16)) (star key)))) 22), (b8, .cells (BV (crO key nonce (n / 16))) 22), (b7, .cells (BV (star key)) 22), (b4, .cells (BV nonce) 81), (b3, .cells (BV (expand key) ++ BV sboxV) 48)] ++ (u.2.2.2 ++ [])) w) (fun u => n - (16 * (n / 16) + u.1)) (0, s.2.1, s.2.2.1, s.2.2.2) ⟨rfl, rfl, rfl, rfl, rfl, rfl, trivial⟩ ⟨⟨by omega, by simpa [tlL] using hO⟩, hS⟩ ?_
      rintro u w ⟨⟨hm, hO⟩, hS⟩
      refine wc_seq ?_
      refine rg ?_
      refine mv rfl rfl rfl ?_
      refine mv rfl rfl rfl ?_
      refine lens Tryz.underlying25 rfl rfl rfl ?_
      refine lss rfl rfl rfl rfl ?_
      refine wq_then ?_
      refine wc_if rfl (fun hc4 => ?_) (fun hc4 => ?_)
      · skip
        try simp only [SB] at hc4
        refine wc_skip ?_
        refine wq_then ?_
        refine wc_seq ?_
        refine wc_block ?_
        refine wc_draw mo 14 (fun w => St w0 [] [(b13, .cells (BV (enc key (xorV (crO key nonce (n / 16)) (star key)))) 22), (b8, .cells (BV (crO key nonce (n / 16))) 22), (b7, .cells (BV (star key)) 22), (b4, .cells (BV nonce) 81), (b3, .cells (BV (expand key) ++ BV sboxV) 48)] w) ?_
        have hS := hS.drew
        refine dq 0 rfl (by kernel_rfl) (by kernel_rfl) (by kernel_rfl) rfl rfl (fun w hS => mv rfl rfl rfl ⟨rfl, rfl⟩) (hS.sublist (.cons_cons _ (.cons_cons _ (.cons_cons _ (.cons_cons _ (.cons_cons _ (List.nil_sublist _))))))) ?_
        refine dq 1 rfl (by kernel_rfl) (by kernel_rfl) (by kernel_rfl) rfl rfl (fun w hS => mv rfl rfl rfl ⟨rfl, rfl⟩) (hS.sublist (.cons_cons _ (.cons_cons _ (.cons_cons _ (.cons_cons _ (.cons_cons _ (List.nil_sublist _))))))) ?_
        refine dq 2 rfl (by kernel_rfl) (by kernel_rfl) (by kernel_rfl) rfl rfl (fun w hS => mv rfl rfl rfl ⟨rfl, rfl⟩) (hS.sublist (.cons_cons _ (.cons_cons _ (.cons_cons _ (.cons_cons _ (.cons_cons _ (List.nil_sublist _))))))) ?_
        refine dq 3 rfl (by kernel_rfl) (by kernel_rfl) (by kernel_rfl) rfl rfl (fun w hS => slx (16 * (n / 16) + u.1) Tryz.underlying25 sz5 rfl rfl rfl rfl (by omega) (by omega) ((hc.st hS).some8 (j := 16 * (n / 16) + u.1) (by first | omega | (simp; done) | (simp; omega))) ⟨rfl, rfl⟩) (hS.sublist (.cons_cons _ (.cons_cons _ (.cons_cons _ (.cons_cons _ (.cons_cons _ (List.nil_sublist _))))))) ?_
        refine dq 4 rfl (by kernel_rfl) (by kernel_rfl) (by kernel_rfl) rfl rfl (fun w hS => ldx sc5 rfl rfl rfl (hc.st hS) (by first | omega | (simp; done) | (simp; omega)) ⟨rfl, rfl⟩) (hS.sublist (.cons_cons _ (.cons_cons _ (.cons_cons _ (.cons_cons _ (.cons_cons _ (List.nil_sublist _))))))) ?_
        refine dq 5 rfl (by kernel_rfl) (by kernel_rfl) (by kernel_rfl) rfl rfl (fun w hS => mv rfl rfl rfl ⟨rfl, rfl⟩) (hS.sublist (.cons_cons _ (.cons_cons _ (.cons_cons _ (.cons_cons _ (.cons_cons _ (List.nil_sublist _))))))) ?_
        refine dq 6 rfl (by kernel_rfl) (by kernel_rfl) (by kernel_rfl) rfl rfl (fun w hS => mv rfl rfl rfl ⟨rfl, rfl⟩) (hS.sublist (.cons_cons _ (.cons_cons _ (.cons_cons _ (.cons_cons _ (.cons_cons _ (List.nil_sublist _))))))) ?_
        refine dq 7 rfl (by kernel_rfl) (by kernel_rfl) (by kernel_rfl) rfl rfl (fun w hS => muli (by omega) (by omega) rfl rfl rfl rfl ⟨rfl, rfl⟩) (hS.sublist (.cons_cons _ (.cons_cons _ (.cons_cons _ (.cons_cons _ (.cons_cons _ (List.nil_sublist _))))))) ?_
        refine dq 8 rfl (by kernel_rfl) (by kernel_rfl) (by kernel_rfl) rfl rfl (fun w hS => subi (by omega) (by omega) rfl rfl rfl rfl ⟨rfl, rfl⟩) (hS.sublist (.cons_cons _ (.cons_cons _ (.cons_cons _ (.cons_cons _ (.cons_cons _ (List.nil_sublist _))))))) ?_
        refine dq 9 rfl (by kernel_rfl) (by kernel_rfl) (by kernel_rfl) rfl rfl (fun w hS => ian ((16 * (n / 16) + u.1) - (16 * (n / 16))) (((16 * (n / 16) + u.1) - (16 * (n / 16)))) Tryz.underlying22 sz5 rfl rfl rfl rfl (by omega) (by omega) (by omega) ⟨rfl, rfl⟩) (hS.sublist (.cons_cons _ (.cons_cons _ (.cons_cons _ (.cons_cons _ (.cons_cons _ (List.nil_sublist _))))))) ?_
        refine dq 10 rfl (by kernel_rfl) (by kernel_rfl) (by kernel_rfl) rfl rfl (fun w hS => lo 0 sc5 hS rfl rfl rfl rfl (BV_get _ ((16 * (n / 16) + u.1) - (16 * (n / 16))) (by omega)) ⟨rfl, rfl⟩) (hS.sublist (.cons_cons _ (.cons_cons _ (.cons_cons _ (.cons_cons _ (.cons_cons _ (List.nil_sublist _))))))) ?_
        refine dq 11 rfl (by kernel_rfl) (by kernel_rfl) (by kernel_rfl) rfl rfl (fun w hS => xor8 rfl rfl rfl rfl ⟨rfl, rfl⟩) (hS.sublist (.cons_cons _ (.cons_cons _ (.cons_cons _ (.cons_cons _ (.cons_cons _ (List.nil_sublist _))))))) ?_
        refine dl 12 rfl (by kernel_rfl) ?_
        refine bsl (cs := #[U8 ((gl bs (16 * (n / 16) + u.1)) ^^^ (gv (enc key (xorV (crO key nonce (n / 16)) (star key))) ((16 * (n / 16) + u.1) - (16 * (n / 16)))))]) sl25 hS rfl rfl rfl rfl (by kernel_rfl) ?_
        intro b72 w hb72 hS
        refine ⟨fun _ => (hS.sublist (.cons _ (.cons_cons _ (.cons_cons _ (.cons_cons _ (.cons_cons _ (.cons_cons _ (List.nil_sublist _)))))))), ?_⟩
        refine dl 13 rfl (by kernel_rfl) ?_
        refine app (A := [(b72, .cells (#[U8 ((gl bs (16 * (n / 16) + u.1)) ^^^ (gv (enc key (xorV (crO key nonce (n / 16)) (star key))) ((16 * (n / 16) + u.1) - (16 * (n / 16)))))]) 5), (b13, .cells (BV (enc key (xorV (crO key nonce (n / 16)) (star key)))) 22), (b8, .cells (BV (crO key nonce (n / 16))) 22), (b7, .cells (BV (star key)) 22), (b4, .cells (BV nonce) 81), (b3, .cells (BV (expand key) ++ BV sboxV) 48)]) (R := []) sl25 hO hS rfl rfl rfl rfl (src8 Tryz.underlying25 _ (Cel.lb (l := [(gl bs (16 * (n / 16) + u.1)) ^^^ (gv (enc key (xorV (crO key nonce (n / 16)) (star key))) ((16 * (n / 16) + u.1) - (16 * (n / 16))))]) (hS.get 0 rfl)) (by first | rfl | omega | (simp; omega) | (simp; done))) (by omega) (by omega) ?_
        intro a73 c73 X73 w hO73 hS
        try simp only [c8_app] at hO73
        refine ⟨fun _ => (hS.sublist (.cons _ (.cons_cons _ (.cons_cons _ (.cons_cons _ (.cons_cons _ (.cons_cons _ (List.nil_sublist _)))))))), ?_⟩
        refine dl 14 rfl (by kernel_rfl) ?_
        refine asg rfl rfl rfl ?_
        refine ⟨fun h => (by cases h), ?_⟩
        refine de (by kernel_rfl) ?_
        refine q_block_norm ?_
        refine wq_then ?_
        refine wc_region ?_
        refine mv rfl rfl rfl ?_
        refine addi (by omega) (by omega) rfl rfl rfl rfl ?_
        refine asg rfl rfl rfl ?_
        refine again_q (u.1 + 1, a73, c73, X73) ⟨rfl, rfl, rfl, rfl, rfl, lkI rfl (by first | omega | rfl), trivial⟩ ⟨⟨by omega, by have h := hO73; rw [List.append_assoc] at h; exact h⟩, hS.tl⟩ (by omega)
      · skip
        try simp only [SB] at hc4
        refine wc_exit ?_
        refine q_then_exit ?_
        refine q_then_exit ?_
        refine q_block_hit ?_
        refine wq_then ?_
        refine rg ?_
        refine mv rfl rfl rfl ?_
        refine asg rfl rfl rfl ?_
        refine wq_then ?_
        refine wc_ret ?_
        refine fin1 (v := .slice u.2.1 (n / 16 * 16 + u.1) u.2.2.1) rfl rfl ?_
        have hm2 : u.1 = n - 16 * (n / 16) := by omega
        have e : n / 16 * 16 + (n - 16 * (n / 16)) = n := by omega
        rw [hm2, e, decT_1 hn] at hO
        exact ⟨_, _, rfl, ⟨_, _, by rw [hm2, e], hO⟩, hS.sublist (.cons _ (.cons _ (.cons _ (.cons _ (.cons _ (List.sublist_append_left u.2.2.2 []))))))⟩
end Go.Proofs.XZ

/- walks -/
namespace Go.Proofs.XZ
open Go Go.X Go.Proofs
set_option maxRecDepth 100000 in
theorem sp_mooringref13_Open (key : V8 16) (nonce : V8 12) (a : Option Addr) (n cap : Nat) (bs : List UInt8) (a2 : Option Addr) (n2 cap2 : Nat) (bs2 : List UInt8) (w0 : World) (hn : bs.length = n) (hN : n ≤ 1000000) (hc : Cel w0 a (c8 bs)) (hcap : n ≤ cap) (h4 : n ≤ 4000) (hn2 : bs2.length = n2) (hN2 : n2 ≤ 1000000) (he2 : Cel w0 a2 (c8 bs2)) (hcap2 : n2 ≤ cap2) (h42 : n2 ≤ 4000) : Calls Tryz.prog 43 #[.agg (BV (expand key) ++ BV sboxV), .agg (BV nonce), .slice a2 n2 cap2, .slice a n cap] w0 (RetS w0 (fun v X => ∃ a' n' c', v = .tuple #[.slice a' n' c', I ((opnE key nonce bs2 bs : Nat) : Int)] ∧ Own 1 a' n' c' (c8 (if opnE key nonce bs2 bs = 0 then opnT key nonce bs else [])) X)) := by
  refine enter (args := [.agg (BV (expand key) ++ BV sboxV), .agg (BV nonce), .slice a2 n2 cap2, .slice a n cap]) Tryz.func43 rfl rfl ?_
  refine startw fun w hS => ?_
  refine rg ?_
  refine bxa hS rfl rfl rfl ?_
  intro b4 w hb4 hS
  refine bxa hS rfl rfl rfl ?_
  intro b5 w hb5 hS
  refine asg rfl rfl rfl ?_
  refine asg rfl rfl rfl ?_
  refine wq_then ?_
  refine wc_seq ?_
  refine rg ?_
  refine mv rfl rfl rfl ?_
  refine lens Tryz.underlying25 rfl rfl rfl ?_
  refine lss rfl rfl rfl rfl ?_
  refine wq_then ?_
  refine wc_if rfl (fun hc1 => ?_) (fun hc1 => ?_)
  · skip
    try simp only [SB] at hc1
    refine rg ?_
    refine asg rfl rfl rfl ?_
    refine asg rfl rfl rfl ?_
    refine wq_then ?_
    refine wc_ret ?_
    refine q_then_ret ?_
    refine fin2 (v := (.slice none 0 0)) (u := I (1)) rfl rfl rfl ?_
    have he : opnE key nonce bs2 bs = 1 := opnR_s hn (by omega)
    rw [he]
    exact ⟨_, [], rfl, ⟨none, 0, 0, rfl, Own.nil 1⟩, hS.drop⟩
  · skip
    try simp only [SB] at hc1
    refine wc_skip ?_
    refine wq_then ?_
    refine rd mo 8 (fun w => St w0 [] [(b5, .cells (BV nonce) 81), (b4, .cells (BV (expand key) ++ BV sboxV) 48)] w) ?_
    have hS := hS.drew
    refine dq 0 rfl (by kernel_rfl) (by kernel_rfl) (by kernel_rfl) rfl rfl (fun w hS => la 1 ag48 hS rfl rfl rfl rfl (cat_size (a := 176) (b := 256) (BV_size _) (BV_size _)) ⟨rfl, rfl⟩) hS ?_
    refine dq 1 rfl (by kernel_rfl) (by kernel_rfl) (by kernel_rfl) rfl rfl (fun w hS => la 0 ag81 hS rfl rfl rfl rfl (BV_size _) ⟨rfl, rfl⟩) hS ?_
    refine dq 2 rfl (by kernel_rfl) (by kernel_rfl) (by kernel_rfl) rfl rfl (fun w hS => mv rfl rfl rfl ⟨rfl, rfl⟩) hS ?_
    refine dq 3 rfl (by kernel_rfl) (by kernel_rfl) (by kernel_rfl) rfl rfl (fun w hS => mv rfl rfl rfl ⟨rfl, rfl⟩) hS ?_
    refine dq 4 rfl (by kernel_rfl) (by kernel_rfl) (by kernel_rfl) rfl rfl (fun w hS => lens Tryz.underlying25 rfl rfl rfl ⟨rfl, rfl⟩) hS ?_
    refine dq 5 rfl (by kernel_rfl) (by kernel_rfl) (by kernel_rfl) rfl rfl (fun w hS => subi (by omega) (by omega) rfl rfl rfl rfl ⟨rfl, rfl⟩) hS ?_
    refine dq 6 rfl (by kernel_rfl) (by kernel_rfl) (by kernel_rfl) rfl rfl (fun w hS => s_h ((n - 16)) Tryz.underlying25 ⟨_, sz5⟩ rfl rfl rfl rfl (by omega) (by omega) ⟨rfl, rfl⟩) hS ?_
    refine dl 7 rfl (by kernel_rfl) ?_
    refine cs cf66 hS rfl rfl rfl rfl rfl (sp_mooringref13_Decrypt (key) (nonce) (a) ((n - 16)) (cap) (((bs).take (n - 16))) _ (by first | rfl | omega | (simp; omega) | (simp; done)) (by omega) ((hc.st hS).take8 (n - 16)) (by omega) (by omega)) ?_
    rintro _ X21 w ⟨a21, c21, rfl, hO21⟩ hS
    have hS := St.tailin (X := X21) hS [(b5, .cells (BV nonce) 81), (b4, .cells (BV (expand key) ++ BV sboxV) 48)] [] rfl
    have hl21 := hO21.le
    refine ⟨fun _ => (St.untail (A := [(b5, .cells (BV nonce) 81), (b4, .cells (BV (expand key) ++ BV sboxV) 48)]) (X := X21) (R := []) hS), ?_⟩
    refine dl 8 rfl (by kernel_rfl) ?_
    refine asg rfl rfl rfl ?_
    refine ⟨fun h => (by cases h), ?_⟩
    refine de (by kernel_rfl) ?_
    refine wq_then ?_
    refine wc_seq ?_
    refine rg ?_
    refine la 1 ag48 hS rfl rfl rfl rfl (cat_size (a := 176) (b := 256) (BV_size _) (BV_size _)) ?_
    refine la 0 ag81 hS rfl rfl rfl rfl (BV_size _) ?_
    refine mv rfl rfl rfl ?_
    refine mv rfl rfl rfl ?_
    refine cs cf38 hS rfl rfl rfl rfl rfl (sp_mooringref12_Seal (key) (nonce) (a21) ((n - 16)) (c21) ((decT key nonce ((bs).take (n - 16)))) (a2) (n2) (cap2) (bs2) _ hO21.len8 (by omega) (hO21.cel hS (fun p hp => by simp [hp])) (by omega) (by omega) (by first | rfl | omega | (simp; omega) | (simp; done)) (by omega) (he2.st hS) (by omega) (by omega)) ?_
    rintro _ X26 w ⟨a26, c26, rfl, hO26⟩ hS
    have hS := St.tailin (X := X26) hS [(b5, .cells (BV nonce) 81), (b4, .cells (BV (expand key) ++ BV sboxV) 48)] (X21 ++ []) rfl
    have hl26 := hO26.le
    refine mv rfl rfl rfl ?_
    refine cv cf13 hS rfl rfl rfl rfl rfl (sp_mooringref01_Same (a26) (((n - 16) + 16)) (c26) ((sealV key nonce bs2 (decT key nonce ((bs).take (n - 16))))) (a) (n) (cap) (bs) _ hO26.len8 (by omega) (hO26.cel hS (fun p hp => by simp [hp])) (by first | rfl | omega | (simp; omega) | (simp; done)) (by omega) (hc.st hS)) ?_
    intro w hS
    refine notb rfl rfl rfl ?_
    refine wq_then ?_
    refine wc_if rfl (fun hc2 => ?_) (fun hc2 => ?_)
    · skip
      try simp only [SB] at hc2
      have he0 := hc2
      refine rg ?_
      refine asg rfl rfl rfl ?_
      refine asg rfl rfl rfl ?_
      refine wq_then ?_
      refine wc_ret ?_
      refine q_then_ret ?_
      refine fin2 (v := (.slice none 0 0)) (u := I (3)) rfl rfl rfl ?_
      have he : opnE key nonce bs2 bs = 3 := opnR_f hn (by omega) (by simpa using he0)
      rw [he]
      exact ⟨_, [], rfl, ⟨none, 0, 0, rfl, Own.nil 1⟩, hS.drop⟩
    · skip
      try simp only [SB] at hc2
      have he0 := hc2
      refine wc_skip ?_
      refine wq_then ?_
      refine rg ?_
      refine mv rfl rfl rfl ?_
      refine asg rfl rfl rfl ?_
      refine asg rfl rfl rfl ?_
      refine wq_then ?_
      refine wc_ret ?_
      refine fin2 (v := .slice a21 (n - 16) c21) (u := I (0)) rfl rfl rfl ?_
      have he : opnE key nonce bs2 bs = 0 := opnR_t hn (by omega) (by simpa using he0)
      exact ⟨_, X21, rfl, ⟨_, _, _, by rw [he]; rfl, opn_o0 hn he hO21⟩, hS.sublist (.cons _ (.cons _ ((List.sublist_append_left X21 []).trans (List.sublist_append_right X26 _))))⟩
end Go.Proofs.XZ

/- walks -/
namespace Go.Proofs.XZ
open Go Go.X Go.Proofs
set_option maxRecDepth 100000 in
theorem sp_mooringref17_Decode (key : V8 16) (a : Option Addr) (n cap : Nat) (bs : List UInt8) (w0 : World) (hn : bs.length = n) (hN : n ≤ 1000000) (hc : Cel w0 a (c8 bs)) (hcap : n ≤ cap) (h4 : n ≤ 4000) : Calls Tryz.prog 17 #[.agg (BV (expand key) ++ BV sboxV), .slice a n cap] w0 (RetS w0 (fun v X => DecI key bs v X)) := by
  refine enter (args := [.agg (BV (expand key) ++ BV sboxV), .slice a n cap]) Tryz.func17 rfl rfl ?_
  refine startw fun w hS => ?_
  have hD2 : headD2 bs ≤ 1 := by rw [headD_2]; exact headD_le bs
  have hS2 : (headS2 bs).toNat ≤ 9223372036854775807 := by rw [headS_2]; exact headS_le bs
  refine rg ?_
  refine bxa hS rfl rfl rfl ?_
  intro b2 w hb2 hS
  refine ala zr27 hS rfl rfl ?_
  intro b4 w hb4 hS
  refine asg rfl rfl rfl ?_
  refine wq_then ?_
  refine wc_seq ?_
  refine rg ?_
  refine mv rfl rfl rfl ?_
  refine lens Tryz.underlying25 rfl rfl rfl ?_
  refine lss rfl rfl rfl rfl ?_
  refine wq_then ?_
  refine wc_if rfl (fun hc1 => ?_) (fun hc1 => ?_)
  · skip
    try simp only [SB] at hc1
    have hk1 : lng n = 1 := by rw [lng, if_pos (by omega)]
    have hq := dcdE_1 (key := key) hn (by omega)
    refine rg ?_
    refine bd (cs := #[I (0), U64 (0), U16 (0), U16 (0), (.slice none 0 0)]) rfl rfl rfl (by kernel_rfl) ?_
    refine sa 0 ag27 hS rfl rfl rfl (by kernel_rfl) rfl rfl rfl ?_
    intro w hS
    refine asg rfl rfl rfl ?_
    refine wq_then ?_
    refine wc_ret ?_
    refine q_then_ret ?_
    refine fin2 (v := .agg (#[I (0), U64 (0), U16 (0), U16 (0), (.slice none 0 0)])) (u := I (1)) rfl ⟨_, rfl, lv_a ag27 (hS.get 0 rfl) rfl⟩ rfl ?_
    exact ⟨_, [], rfl, decI_bad (by omega) (e := 1) (by omega), hS.drop⟩
  · skip
    try simp only [SB] at hc1
    refine wc_skip ?_
    refine wq_then ?_
    refine wc_seq ?_
    refine rg ?_
    refine mv rfl rfl rfl ?_
    refine lens Tryz.underlying25 rfl rfl rfl ?_
    refine gtr rfl rfl rfl rfl ?_
    refine wq_then ?_
    refine wc_if rfl (fun hc2 => ?_) (fun hc2 => ?_)
    · skip
      try simp only [SB] at hc2
      have hk1 : lng n = 2 := by rw [lng, if_neg (by omega), if_pos (by omega)]
      have hq := dcdE_1 (key := key) hn (by omega)
      refine rg ?_
      refine bd (cs := #[I (0), U64 (0), U16 (0), U16 (0), (.slice none 0 0)]) rfl rfl rfl (by kernel_rfl) ?_
      refine sa 0 ag27 hS rfl rfl rfl (by kernel_rfl) rfl rfl rfl ?_
      intro w hS
      refine asg rfl rfl rfl ?_
      refine wq_then ?_
      refine wc_ret ?_
      refine q_then_ret ?_
      refine fin2 (v := .agg (#[I (0), U64 (0), U16 (0), U16 (0), (.slice none 0 0)])) (u := I (2)) rfl ⟨_, rfl, lv_a ag27 (hS.get 0 rfl) rfl⟩ rfl ?_
      exact ⟨_, [], rfl, decI_bad (by omega) (e := 2) (by omega), hS.drop⟩
    · skip
      try simp only [SB] at hc2
      have hk : lng n = 0 := lng_ok (by omega) (by omega)
      have hq := dcdE_2 (key := key) hn hk
      refine wc_skip ?_
      refine wq_then ?_
      refine rg ?_
      refine mv rfl rfl rfl ?_
      refine cv cf42 hS rfl rfl rfl rfl rfl (sp_mooringref15_ParseHead (a) (n) (cap) (bs) _ (by first | rfl | omega | (simp; omega) | (simp; done)) (by omega) (hc.st hS) (by omega) (by omega)) ?_
      intro w hS
      refine mv rfl rfl rfl ?_
      refine ext rfl rfl rfl rfl ?_
      refine ext rfl rfl rfl rfl ?_
      refine asg rfl rfl rfl ?_
      refine asg rfl rfl rfl ?_
      refine wq_then ?_
      refine rd mo 11 (fun w => St w0 [] [(b4, .cells (#[I (0), U64 (0), U16 (0), U16 (0), (.slice none 0 0)]) 27), (b2, .cells (BV (expand key) ++ BV sboxV) 48)] w) ?_
      have hS := hS.drew
      refine dq 0 rfl (by kernel_rfl) (by kernel_rfl) (by kernel_rfl) rfl rfl (fun w hS => la 1 ag48 hS rfl rfl rfl rfl (cat_size (a := 176) (b := 256) (BV_size _) (BV_size _)) ⟨rfl, rfl⟩) hS ?_
      refine dq 1 rfl (by kernel_rfl) (by kernel_rfl) (by kernel_rfl) rfl rfl (fun w hS => mv rfl rfl rfl ⟨rfl, rfl⟩) hS ?_
      refine dq 2 rfl (by kernel_rfl) (by kernel_rfl) (by kernel_rfl) rfl rfl (fun w hS => mv rfl rfl rfl ⟨rfl, rfl⟩) hS ?_
      refine dq 4 rfl (by kernel_rfl) (by kernel_rfl) (by kernel_rfl) rfl rfl (fun w hS => mv rfl rfl rfl ⟨rfl, rfl⟩) hS ?_
      refine dq 5 rfl (by kernel_rfl) (by kernel_rfl) (by kernel_rfl) rfl rfl (fun w hS => s_l (8) Tryz.underlying25 sz5 rfl rfl rfl rfl (by omega) (by omega) ⟨rfl, rfl⟩) hS ?_
      refine dl 3 rfl (by kernel_rfl) ?_
      refine cv cf39 hS rfl rfl rfl rfl rfl (sp_mooringref15_Make ((headD2 bs)) ((headS2 bs)) _ _ (by omega) (by omega) (by assumption)) ?_
      intro w hS
      rw [head_ofl2 bs (by omega)]
      refine ⟨fun _ => hS, ?_⟩
      refine dl 6 rfl (by kernel_rfl) ?_
      refine cs cf43 hS rfl rfl rfl rfl rfl (sp_mooringref13_Open (key) ((nonceV (ofl 8 bs))) ((sla a 8 cap)) ((n - 8)) ((cap - 8)) (((bs).drop 8)) (none) (0) (0) (([])) _ (by first | rfl | omega | (simp; omega) | (simp; done)) (by omega) ((hc.st hS).drop8 (lo := 8) (cap := cap) (by first | omega | (simp; omega) | simp)) (by omega) (by omega) rfl (by omega) (Cel.nil _ _) (by omega) (by omega)) ?_
      rintro _ X31 w ⟨a31, n31, c31, rfl, hO31⟩ hS
      have hS := St.tailin (X := X31) hS [(b4, .cells (#[I (0), U64 (0), U16 (0), U16 (0), (.slice none 0 0)]) 27), (b2, .cells (BV (expand key) ++ BV sboxV) 48)] [] rfl
      refine ⟨fun _ => (St.untail (A := [(b4, .cells (#[I (0), U64 (0), U16 (0), U16 (0), (.slice none 0 0)]) 27), (b2, .cells (BV (expand key) ++ BV sboxV) 48)]) (X := X31) (R := []) hS), ?_⟩
      refine dq 7 rfl (by kernel_rfl) (by kernel_rfl) (by kernel_rfl) rfl rfl (fun w hS => mv rfl rfl rfl ⟨rfl, rfl⟩) (St.untail (A := [(b4, .cells (#[I (0), U64 (0), U16 (0), U16 (0), (.slice none 0 0)]) 27), (b2, .cells (BV (expand key) ++ BV sboxV) 48)]) (X := X31) (R := []) hS) ?_
      refine dq 8 rfl (by kernel_rfl) (by kernel_rfl) (by kernel_rfl) rfl rfl (fun w hS => ext rfl rfl rfl rfl ⟨rfl, rfl⟩) (St.untail (A := [(b4, .cells (#[I (0), U64 (0), U16 (0), U16 (0), (.slice none 0 0)]) 27), (b2, .cells (BV (expand key) ++ BV sboxV) 48)]) (X := X31) (R := []) hS) ?_
      refine dq 9 rfl (by kernel_rfl) (by kernel_rfl) (by kernel_rfl) rfl rfl (fun w hS => ext rfl rfl rfl rfl ⟨rfl, rfl⟩) (St.untail (A := [(b4, .cells (#[I (0), U64 (0), U16 (0), U16 (0), (.slice none 0 0)]) 27), (b2, .cells (BV (expand key) ++ BV sboxV) 48)]) (X := X31) (R := []) hS) ?_
      refine dq 10 rfl (by kernel_rfl) (by kernel_rfl) (by kernel_rfl) rfl rfl (fun w hS => asg rfl rfl rfl ⟨rfl, rfl⟩) (St.untail (A := [(b4, .cells (#[I (0), U64 (0), U16 (0), U16 (0), (.slice none 0 0)]) 27), (b2, .cells (BV (expand key) ++ BV sboxV) 48)]) (X := X31) (R := []) hS) ?_
      refine dl 11 rfl (by kernel_rfl) ?_
      refine asg rfl rfl rfl ?_
      refine ⟨fun h => (by cases h), ?_⟩
      refine de (by kernel_rfl) ?_
      refine wq_then ?_
      refine wc_seq ?_
      refine rg ?_
      refine mv rfl rfl rfl ?_
      refine nei rfl rfl rfl rfl ?_
      refine wq_then ?_
      refine wc_if rfl (fun hc3 => ?_) (fun hc3 => ?_)
      · skip
        try simp only [SB] at hc3
        have hj : dcdE key bs ≠ 0 := by rw [hq]; simpa using hc3
        refine rg ?_
        refine bd (cs := #[I (0), U64 (0), U16 (0), U16 (0), (.slice none 0 0)]) rfl rfl rfl (by kernel_rfl) ?_
        refine mv rfl rfl rfl ?_
        refine sa 0 ag27 hS rfl rfl rfl (by kernel_rfl) rfl rfl rfl ?_
        intro w hS
        refine asg rfl rfl rfl ?_
        refine wq_then ?_
        refine wc_ret ?_
        refine q_then_ret ?_
        refine fin2 (v := .agg (#[I (0), U64 (0), U16 (0), U16 (0), (.slice none 0 0)])) (u := I (((opnE key (nonceV (ofl 8 bs)) ([]) ((bs).drop 8) : Nat) : Int))) rfl ⟨_, rfl, lv_a ag27 (hS.get 0 rfl) rfl⟩ rfl ?_
        exact ⟨_, [], rfl, decI_bad hj hq, hS.drop⟩
      · skip
        try simp only [SB] at hc3
        have hj : dcdE key bs = 0 := by rw [hq]; simpa using hc3
        rw [← hq, if_pos hj] at hO31
        have hO31 : Own 1 a31 n31 c31 (c8 (dcdX key bs)) X31 := hO31
        have hl31 := hO31.len8
        have hl29 := dcdX_len key bs
        have hl30 := hO31.le
        refine wc_skip ?_
        refine wq_then ?_
        refine rg ?_
        refine mv rfl rfl rfl ?_
        refine mv rfl rfl rfl ?_
        refine mv rfl rfl rfl ?_
        refine s_l (4) Tryz.underlying25 sz5 rfl rfl rfl rfl (by omega) (by omega) ?_
        refine bd (cs := #[I ((headD2 bs : Nat) : Int), U64 (headS2 bs), U16 (0), U16 (0), .slice (sla a31 4 c31) (n31 - 4) (c31 - 4)]) rfl rfl rfl (by kernel_rfl) ?_
        refine ala zr27 hS rfl rfl ?_
        intro b10 w hb10 hS
        refine sa 0 ag27 hS rfl rfl rfl (by kernel_rfl) rfl rfl rfl ?_
        intro w hS
        refine wq_then ?_
        refine rd mo 10 (fun w => St w0 [] ([(b10, .cells (#[I ((headD2 bs : Nat) : Int), U64 (headS2 bs), U16 (0), U16 (0), .slice (sla a31 4 c31) (n31 - 4) (c31 - 4)]) 27), (b4, .cells (#[I (0), U64 (0), U16 (0), U16 (0), (.slice none 0 0)]) 27), (b2, .cells (BV (expand key) ++ BV sboxV) 48)] ++ (X31 ++ [])) w) ?_
        have hS := hS.drew
        refine dq 0 rfl (by kernel_rfl) (by kernel_rfl) (by kernel_rfl) rfl rfl (fun w hS => mv rfl rfl rfl ⟨rfl, rfl⟩) hS ?_
        refine dq 1 rfl (by kernel_rfl) (by kernel_rfl) (by kernel_rfl) rfl rfl (fun w hS => slx (0) Tryz.underlying25 sz5 rfl rfl rfl rfl (by omega) (by omega) ((hO31.cel hS (fun p hp => by simp [hp])).some8 (j := 0) (by first | omega | (simp; done) | (simp; omega))) ⟨rfl, rfl⟩) hS ?_
        refine dq 2 rfl (by kernel_rfl) (by kernel_rfl) (by kernel_rfl) rfl rfl (fun w hS => ldx sc5 rfl rfl rfl (hO31.cel hS (fun p hp => by simp [hp])) (by first | omega | (simp; done) | (simp; omega)) ⟨rfl, rfl⟩) hS ?_
        refine dq 3 rfl (by kernel_rfl) (by kernel_rfl) (by kernel_rfl) rfl rfl (fun w hS => cvu16 Tryz.underlying24 ⟨_, Tryz.underlying5⟩ rfl rfl rfl ⟨rfl, rfl⟩) hS ?_
        refine dq 4 rfl (by kernel_rfl) (by kernel_rfl) (by kernel_rfl) rfl rfl (fun w hS => mul16 (q := (256 : UInt16)) rfl rfl rfl rfl ⟨rfl, rfl⟩) hS ?_
        refine dq 5 rfl (by kernel_rfl) (by kernel_rfl) (by kernel_rfl) rfl rfl (fun w hS => mv rfl rfl rfl ⟨rfl, rfl⟩) hS ?_
        refine dq 6 rfl (by kernel_rfl) (by kernel_rfl) (by kernel_rfl) rfl rfl (fun w hS => slx (1) Tryz.underlying25 sz5 rfl rfl rfl rfl (by omega) (by omega) ((hO31.cel hS (fun p hp => by simp [hp])).some8 (j := 1) (by first | omega | (simp; done) | (simp; omega))) ⟨rfl, rfl⟩) hS ?_
        refine dq 7 rfl (by kernel_rfl) (by kernel_rfl) (by kernel_rfl) rfl rfl (fun w hS => ldx sc5 rfl rfl rfl (hO31.cel hS (fun p hp => by simp [hp])) (by first | omega | (simp; done) | (simp; omega)) ⟨rfl, rfl⟩) hS ?_
        refine dq 8 rfl (by kernel_rfl) (by kernel_rfl) (by kernel_rfl) rfl rfl (fun w hS => cvu16 Tryz.underlying24 ⟨_, Tryz.underlying5⟩ rfl rfl rfl ⟨rfl, rfl⟩) hS ?_
        refine dq 9 rfl (by kernel_rfl) (by kernel_rfl) (by kernel_rfl) rfl rfl (fun w hS => add16 rfl rfl rfl rfl ⟨rfl, rfl⟩) hS ?_
        refine dl 10 rfl (by kernel_rfl) ?_
        refine fan (2) (2) Tryz.underlying27 rfl sz24 (by decide) rfl rfl rfl rfl (by omega) ?_
        refine ⟨fun h => (by cases h), ?_⟩
        refine dl 11 rfl (by kernel_rfl) ?_
        refine st 0 sz24 hS rfl rfl rfl rfl rfl rfl (by show (2 : Nat) < 5; decide) rfl ?_
        intro w hS
        refine ⟨fun h => (by cases h), ?_⟩
        refine de (by kernel_rfl) ?_
        refine wq_then ?_
        refine rd mo 10 (fun w => St w0 [] ([(b10, .cells (#[I ((headD2 bs : Nat) : Int), U64 (headS2 bs), U16 (((toU16 (((gl (dcdX key bs) 0).toNat : Int))) * 256) + (toU16 (((gl (dcdX key bs) 1).toNat : Int)))), U16 (0), .slice (sla a31 4 c31) (n31 - 4) (c31 - 4)]) 27), (b4, .cells (#[I (0), U64 (0), U16 (0), U16 (0), (.slice none 0 0)]) 27), (b2, .cells (BV (expand key) ++ BV sboxV) 48)] ++ (X31 ++ [])) w) ?_
        have hS := hS.drew
        refine dq 0 rfl (by kernel_rfl) (by kernel_rfl) (by kernel_rfl) rfl rfl (fun w hS => mv rfl rfl rfl ⟨rfl, rfl⟩) hS ?_
        refine dq 1 rfl (by kernel_rfl) (by kernel_rfl) (by kernel_rfl) rfl rfl (fun w hS => slx (2) Tryz.underlying25 sz5 rfl rfl rfl rfl (by omega) (by omega) ((hO31.cel hS (fun p hp => by simp [hp])).some8 (j := 2) (by first | omega | (simp; done) | (simp; omega))) ⟨rfl, rfl⟩) hS ?_
        refine dq 2 rfl (by kernel_rfl) (by kernel_rfl) (by kernel_rfl) rfl rfl (fun w hS => ldx sc5 rfl rfl rfl (hO31.cel hS (fun p hp => by simp [hp])) (by first | omega | (simp; done) | (simp; omega)) ⟨rfl, rfl⟩) hS ?_
        refine dq 3 rfl (by kernel_rfl) (by kernel_rfl) (by kernel_rfl) rfl rfl (fun w hS => cvu16 Tryz.underlying24 ⟨_, Tryz.underlying5⟩ rfl rfl rfl ⟨rfl, rfl⟩) hS ?_
        refine dq 4 rfl (by kernel_rfl) (by kernel_rfl) (by kernel_rfl) rfl rfl (fun w hS => mul16 (q := (256 : UInt16)) rfl rfl rfl rfl ⟨rfl, rfl⟩) hS ?_
        refine dq 5 rfl (by kernel_rfl) (by kernel_rfl) (by kernel_rfl) rfl rfl (fun w hS => mv rfl rfl rfl ⟨rfl, rfl⟩) hS ?_
        refine dq 6 rfl (by kernel_rfl) (by kernel_rfl) (by kernel_rfl) rfl rfl (fun w hS => slx (3) Tryz.underlying25 sz5 rfl rfl rfl rfl (by omega) (by omega) ((hO31.cel hS (fun p hp => by simp [hp])).some8 (j := 3) (by first | omega | (simp; done) | (simp; omega))) ⟨rfl, rfl⟩) hS ?_
        refine dq 7 rfl (by kernel_rfl) (by kernel_rfl) (by kernel_rfl) rfl rfl (fun w hS => ldx sc5 rfl rfl rfl (hO31.cel hS (fun p hp => by simp [hp])) (by first | omega | (simp; done) | (simp; omega)) ⟨rfl, rfl⟩) hS ?_
        refine dq 8 rfl (by kernel_rfl) (by kernel_rfl) (by kernel_rfl) rfl rfl (fun w hS => cvu16 Tryz.underlying24 ⟨_, Tryz.underlying5⟩ rfl rfl rfl ⟨rfl, rfl⟩) hS ?_
        refine dq 9 rfl (by kernel_rfl) (by kernel_rfl) (by kernel_rfl) rfl rfl (fun w hS => add16 rfl rfl rfl rfl ⟨rfl, rfl⟩) hS ?_
        refine dl 10 rfl (by kernel_rfl) ?_
        refine fan (3) (3) Tryz.underlying27 rfl sz24 (by decide) rfl rfl rfl rfl (by omega) ?_
        refine ⟨fun h => (by cases h), ?_⟩
        refine dl 11 rfl (by kernel_rfl) ?_
        refine st 0 sz24 hS rfl rfl rfl rfl rfl rfl (by show (3 : Nat) < 5; decide) rfl ?_
        intro w hS
        refine ⟨fun h => (by cases h), ?_⟩
        refine de (by kernel_rfl) ?_
        refine wq_then ?_
        refine rg ?_
        refine la 0 ag27 hS rfl rfl rfl rfl rfl ?_
        refine sa 1 ag27 hS rfl rfl rfl (by kernel_rfl) rfl rfl rfl ?_
        intro w hS
        refine asg rfl rfl rfl ?_
        refine wq_then ?_
        refine wc_ret ?_
        refine fin2 (v := .agg (#[I ((headD2 bs : Nat) : Int), U64 (headS2 bs), U16 (((toU16 (((gl (dcdX key bs) 0).toNat : Int))) * 256) + (toU16 (((gl (dcdX key bs) 1).toNat : Int)))), U16 (((toU16 (((gl (dcdX key bs) 2).toNat : Int))) * 256) + (toU16 (((gl (dcdX key bs) 3).toNat : Int)))), .slice (sla a31 4 c31) (n31 - 4) (c31 - 4)])) (u := I (0)) rfl ⟨_, rfl, lv_a ag27 (hS.get 1 rfl) rfl⟩ rfl ?_
        exact ⟨_, X31, rfl, decI_ok hj (by omega) hl31 (by omega) hO31, hS.sublist (.cons _ (.cons _ (.cons _ (List.sublist_append_left X31 []))))⟩
end Go.Proofs.XZ

/- walks -/
namespace Go.Proofs.XZ
open Go Go.X Go.Proofs
set_option maxRecDepth 100000 in
theorem sp_mooringlaw17_PacketDecodes (key : V8 16) (a : Option Addr) (n cap : Nat) (bs : List UInt8) (w0 : World) (hn : bs.length = n) (hc : Cel w0 a (c8 bs)) (hcap : n ≤ cap) (hG : Gl 0 w0) : Calls Tryz.prog 4 #[.agg (BV key), .slice a n cap] w0 (Ret w0 (.bool true)) := by
  refine enter (args := [.agg (BV key), .slice a n cap]) Tryz.func4 rfl rfl ?_
  refine startw fun w hS => ?_
  refine rg ?_
  refine bxa hS rfl rfl rfl ?_
  intro b2 w hb2 hS
  refine asg rfl rfl rfl ?_
  refine wq_then ?_
  refine wc_seq ?_
  refine rg ?_
  refine cv cf5 hS rfl rfl rfl rfl rfl (sp_mooringlaw17_awake _ (hG.st hS)) ?_
  intro w hS
  refine notb rfl rfl rfl ?_
  refine mv rfl rfl rfl ?_
  refine mv rfl rfl rfl ?_
  refine lens Tryz.underlying25 rfl rfl rfl ?_
  refine gtr rfl rfl rfl rfl ?_
  refine mv rfl rfl rfl ?_
  refine spl 18 rfl (fun hb1 => ?_) (fun hb1 => ?_)
  · skip
    try simp only [SB] at hb1
    refine mv rfl rfl rfl ?_
    refine lens Tryz.underlying25 rfl rfl rfl ?_
    refine lss rfl rfl rfl rfl ?_
    refine pk_t rfl rfl rfl rfl ?_
    refine pk_f rfl rfl rfl rfl ?_
    refine mv rfl rfl rfl ?_
    refine spl 24 rfl (fun hb2 => ?_) (fun hb2 => ?_)
    · skip
      try simp only [SB] at hb2
      refine no rfl rfl ?_
      refine no rfl rfl ?_
      refine no rfl rfl ?_
      refine pk_t rfl rfl rfl rfl ?_
      refine wq_then ?_
      refine wc_if_t rfl ?_
      refine rg ?_
      refine cv cf5 hS rfl rfl rfl rfl rfl (sp_mooringlaw17_awake _ (hG.st hS)) ?_
      intro w hS
      refine asg rfl rfl rfl ?_
      refine wq_then ?_
      refine wc_ret ?_
      refine q_then_ret ?_
      refine fin1 (v := .bool (true)) rfl rfl ?_
      exact ⟨rfl, hS.drop⟩
    · skip
      try simp only [SB] at hb2
      refine mv rfl rfl rfl ?_
      refine lens Tryz.underlying25 rfl rfl rfl ?_
      refine gtr rfl rfl rfl rfl ?_
      refine pk_f rfl rfl rfl rfl ?_
      refine wq_then ?_
      refine wc_if rfl (fun hc1 => ?_) (fun hc1 => ?_)
      · skip
        try simp only [SB] at hc1
        refine rg ?_
        refine cv cf5 hS rfl rfl rfl rfl rfl (sp_mooringlaw17_awake _ (hG.st hS)) ?_
        intro w hS
        refine asg rfl rfl rfl ?_
        refine wq_then ?_
        refine wc_ret ?_
        refine q_then_ret ?_
        refine fin1 (v := .bool (true)) rfl rfl ?_
        exact ⟨rfl, hS.drop⟩
      · skip
        try simp only [SB] at hc1
        refine wc_skip ?_
        refine wq_then ?_
        refine rg ?_
        refine la 0 ag22 hS rfl rfl rfl rfl (BV_size _) ?_
        refine cs cf8 hS rfl rfl rfl rfl rfl (sp_fast_New (key) _) ?_
        rintro _ _ w ⟨c31, rfl, rfl⟩ hS
        refine cs cf7 hS rfl rfl rfl rfl rfl (sp_table_New (c31) (_) (key) _ (hS.get 0 rfl)) ?_
        rintro _ _ w ⟨t32, rfl, rfl⟩ hS
        refine asg rfl rfl rfl ?_
        refine wq_then ?_
        refine rg ?_
        refine mv rfl rfl rfl ?_
        refine mv rfl rfl rfl ?_
        refine cs cf12 hS rfl rfl rfl rfl rfl (sp_packet_Decode (t32) (c31) (key) (a) (n) (cap) (bs) _ (⟨⟨_, hS.get 0 rfl⟩, _, hS.get 1 rfl⟩) (by first | rfl | omega | (simp; omega) | (simp; done)) (by omega) (hc.st hS) (by omega) (hG.st hS)) ?_
        rintro _ X36 w ⟨a36, n36, c36, rfl, hl36, hm36, hc36, hR36⟩ hS
        have hS := St.tailin (X := X36) hS [(t32, .cells (tableC c31 key) 61), (c31, .cells (cipherC key) 70), (b2, .cells (BV key) 22)] [] rfl
        refine mv rfl rfl rfl ?_
        refine ext rfl rfl rfl rfl ?_
        refine ext rfl rfl rfl rfl ?_
        refine ala zr27 hS rfl rfl ?_
        intro b6 w hb6 hS
        refine sa 0 ag27 hS rfl rfl rfl (by kernel_rfl) rfl rfl rfl ?_
        intro w hS
        refine asg rfl rfl rfl ?_
        refine wq_then ?_
        refine rg ?_
        refine la 3 ag22 hS rfl rfl rfl rfl (BV_size _) ?_
        refine cv cf15 hS rfl rfl rfl rfl rfl (sp_mooringref06_Prepare (key) _) ?_
        intro w hS
        refine mv rfl rfl rfl ?_
        refine cs cf17 hS rfl rfl rfl rfl rfl (sp_mooringref17_Decode (key) (a) (n) (cap) (bs) _ (by first | rfl | omega | (simp; omega) | (simp; done)) (by omega) (hc.st hS) (by omega) (by omega)) ?_
        rintro _ X43 w ⟨a43, n43, c43, rfl, hl43, hm43, hc43, hR43⟩ hS
        have hS := St.tailin (X := X43) hS [(b6, .cells (#[I (((dcdD key bs : Nat) : Int)), U64 (dcdS key bs), U16 (dcdT key bs), U16 (dcdM key bs), .slice a36 n36 c36]) 27), (t32, .cells (tableC c31 key) 61), (c31, .cells (cipherC key) 70), (b2, .cells (BV key) 22)] (X36 ++ []) rfl
        refine mv rfl rfl rfl ?_
        refine ext rfl rfl rfl rfl ?_
        refine ext rfl rfl rfl rfl ?_
        refine ala zr27 hS rfl rfl ?_
        intro b8 w hb8 hS
        refine sa 0 ag27 hS rfl rfl rfl (by kernel_rfl) rfl rfl rfl ?_
        intro w hS
        refine asg rfl rfl rfl ?_
        refine wq_then ?_
        refine wc_seq ?_
        refine rg ?_
        refine la 1 ag27 hS rfl rfl rfl rfl rfl ?_
        refine la 0 ag27 hS rfl rfl rfl rfl rfl ?_
        refine cv cf16 hS rfl rfl rfl rfl rfl (sp_mooringref17_Same (((dcdD key bs : Nat) : Int)) ((dcdS key bs)) ((dcdT key bs)) ((dcdM key bs)) (a36) (n36) (c36) ((dcdP key bs)) (((dcdD key bs : Nat) : Int)) ((dcdS key bs)) ((dcdT key bs)) ((dcdM key bs)) (a43) (n43) (c43) ((dcdP key bs)) _ hl36 (by omega) (hR36 _ _ _ _ hS (fun p hp => by simp [hp])) hl43 (by omega) (hR43 _ _ _ _ hS (fun p hp => by simp [hp]))) ?_
        intro w hS
        refine notb rfl rfl rfl ?_
        refine wq_then ?_
        refine wc_if rfl (fun hc2 => ?_) (fun hc2 => ?_)
        · skip
          try simp only [SB] at hc2
          exfalso; rw [sameR_self] at hc2; cases hc2
        · skip
          try simp only [SB] at hc2
          refine wc_skip ?_
          refine wq_then ?_
          refine wc_seq ?_
          refine rg ?_
          refine mv rfl rfl rfl ?_
          refine nei rfl rfl rfl rfl ?_
          refine wq_then ?_
          refine wc_if rfl (fun hc3 => ?_) (fun hc3 => ?_)
          · skip
            try simp only [SB] at hc3
            have hE : dcdE key bs ≠ 0 := by omega
            refine rg ?_
            refine mv rfl rfl rfl ?_
            refine mv rfl rfl rfl ?_
            refine mki cc40 rfl rfl rfl ?_
            refine eqEE (c := (dcdE key bs)) Tryz.underlying35 ec40 rfl rfl rfl rfl ?_
            refine asg rfl rfl rfl ?_
            refine wq_then ?_
            refine wc_ret ?_
            refine q_then_ret ?_
            refine fin1 (v := .bool (decide ((((dcdE key bs) : Nat) : Int) = ((dcdE key bs : Nat) : Int) ∧ (dcdE key bs) ≠ 0))) rfl rfl ?_
            refine ⟨?_, hS.drop⟩
            simp [hE]
          · skip
            try simp only [SB] at hc3
            have hE : dcdE key bs = 0 := by omega
            obtain ⟨hC, hA⟩ := again_eq hE
            rw [hl36] at hC
            refine wc_skip ?_
            refine wq_then ?_
            refine rg ?_
            refine mv rfl rfl rfl ?_
            refine la 1 ag27 hS rfl rfl rfl rfl rfl ?_
            refine cs cf9 hS rfl rfl rfl rfl rfl (sp_packet_Encode (t32) (c31) (key) (((dcdD key bs : Nat) : Int)) ((dcdS key bs)) ((dcdT key bs)) ((dcdM key bs)) (a36) (n36) (c36) ((dcdP key bs)) _ (⟨⟨_, hS.get 2 rfl⟩, _, hS.get 3 rfl⟩) hl36 (by omega) (hR36 _ _ _ _ hS (fun p hp => by simp [hp])) (by omega) (hG.st hS)) ?_
            rintro _ X59 w ⟨a59, n59, c59, rfl, hO59⟩ hS
            have hS := St.tailin (X := X59) hS [(b8, .cells (#[I (((dcdD key bs : Nat) : Int)), U64 (dcdS key bs), U16 (dcdT key bs), U16 (dcdM key bs), .slice a43 n43 c43]) 27), (b6, .cells (#[I (((dcdD key bs : Nat) : Int)), U64 (dcdS key bs), U16 (dcdT key bs), U16 (dcdM key bs), .slice a36 n36 c36]) 27), (t32, .cells (tableC c31 key) 61), (c31, .cells (cipherC key) 70), (b2, .cells (BV key) 22)] (X43 ++ (X36 ++ [])) rfl
            have hl59 := hO59.len8
            rw [hA] at hl59
            refine mv rfl rfl rfl ?_
            refine ext rfl rfl rfl rfl ?_
            refine ext rfl rfl rfl rfl ?_
            refine asg rfl rfl rfl ?_
            refine asg rfl rfl rfl ?_
            refine wq_then ?_
            refine rg ?_
            refine mv rfl rfl rfl ?_
            refine eqE (C := 40) (c := (dcdE key bs)) Tryz.underlying35 rfl rfl rfl ?_
            refine mv rfl rfl rfl ?_
            refine spl 64 rfl (fun hb3 => ?_) (fun hb3 => ?_)
            · skip
              try simp only [SB] at hb3
              refine mv rfl rfl rfl ?_
              refine eqE (C := 40) (c := (chk ((dcdD key bs : Nat) : Int) (dcdS key bs) n36)) Tryz.underlying35 rfl rfl rfl ?_
              refine pk_t rfl rfl rfl rfl ?_
              refine mv rfl rfl rfl ?_
              refine spl 68 rfl (fun hb4 => ?_) (fun hb4 => ?_)
              · skip
                try simp only [SB] at hb4
                refine mv rfl rfl rfl ?_
                refine mv rfl rfl rfl ?_
                refine cv cf13 hS rfl rfl rfl rfl rfl (sp_mooringref01_Same (a59) (n59) (c59) ((encP key ((dcdD key bs : Nat) : Int) (dcdS key bs) (dcdT key bs) (dcdM key bs) (dcdP key bs))) (a) (n) (cap) (bs) _ hO59.len8 (by omega) (hO59.cel hS (fun p hp => by simp [hp])) (by first | rfl | omega | (simp; omega) | (simp; done)) (by omega) (hc.st hS)) ?_
                intro w hS
                refine pk_t rfl rfl rfl rfl ?_
                refine asg rfl rfl rfl ?_
                refine wq_then ?_
                refine wc_ret ?_
                refine fin1 (v := .bool (decide ((encP key ((dcdD key bs : Nat) : Int) (dcdS key bs) (dcdT key bs) (dcdM key bs) (dcdP key bs)) = bs))) rfl rfl ?_
                refine ⟨?_, hS.drop⟩
                rw [hA]; simp
              · skip
                try simp only [SB] at hb4
                exact absurd hC hb4
            · skip
              try simp only [SB] at hb3
              exact absurd hE hb3
  · skip
    try simp only [SB] at hb1
    refine no rfl rfl ?_
    refine no rfl rfl ?_
    refine no rfl rfl ?_
    refine pk_f rfl rfl rfl rfl ?_
    refine pk_f rfl rfl rfl rfl ?_
    refine mv rfl rfl rfl ?_
    refine mv rfl rfl rfl ?_
    refine lens Tryz.underlying25 rfl rfl rfl ?_
    refine gtr rfl rfl rfl rfl ?_
    refine pk_f rfl rfl rfl rfl ?_
    refine wq_then ?_
    refine wc_if rfl (fun hc4 => ?_) (fun hc4 => ?_)
    · skip
      try simp only [SB] at hc4
      refine rg ?_
      refine cv cf5 hS rfl rfl rfl rfl rfl (sp_mooringlaw17_awake _ (hG.st hS)) ?_
      intro w hS
      refine asg rfl rfl rfl ?_
      refine wq_then ?_
      refine wc_ret ?_
      refine q_then_ret ?_
      refine fin1 (v := .bool (true)) rfl rfl ?_
      exact ⟨rfl, hS.drop⟩
    · skip
      try simp only [SB] at hc4
      refine wc_skip ?_
      refine wq_then ?_
      refine rg ?_
      refine la 0 ag22 hS rfl rfl rfl rfl (BV_size _) ?_
      refine cs cf8 hS rfl rfl rfl rfl rfl (sp_fast_New (key) _) ?_
      rintro _ _ w ⟨c31, rfl, rfl⟩ hS
      refine cs cf7 hS rfl rfl rfl rfl rfl (sp_table_New (c31) (_) (key) _ (hS.get 0 rfl)) ?_
      rintro _ _ w ⟨t32, rfl, rfl⟩ hS
      refine asg rfl rfl rfl ?_
      refine wq_then ?_
      refine rg ?_
      refine mv rfl rfl rfl ?_
      refine mv rfl rfl rfl ?_
      refine cs cf12 hS rfl rfl rfl rfl rfl (sp_packet_Decode (t32) (c31) (key) (a) (n) (cap) (bs) _ (⟨⟨_, hS.get 0 rfl⟩, _, hS.get 1 rfl⟩) (by first | rfl | omega | (simp; omega) | (simp; done)) (by omega) (hc.st hS) (by omega) (hG.st hS)) ?_
      rintro _ X36 w ⟨a36, n36, c36, rfl, hl36, hm36, hc36, hR36⟩ hS
      have hS := St.tailin (X := X36) hS [(t32, .cells (tableC c31 key) 61), (c31, .cells (cipherC key) 70), (b2, .cells (BV key) 22)] [] rfl
      refine mv rfl rfl rfl ?_
      refine ext rfl rfl rfl rfl ?_
      refine ext rfl rfl rfl rfl ?_
      refine ala zr27 hS rfl rfl ?_
      intro b6 w hb6 hS
      refine sa 0 ag27 hS rfl rfl rfl (by kernel_rfl) rfl rfl rfl ?_
      intro w hS
      refine asg rfl rfl rfl ?_
      refine wq_then ?_
      refine rg ?_
      refine la 3 ag22 hS rfl rfl rfl rfl (BV_size _) ?_
      refine cv cf15 hS rfl rfl rfl rfl rfl (sp_mooringref06_Prepare (key) _) ?_
      intro w hS
      refine mv rfl rfl rfl ?_
      refine cs cf17 hS rfl rfl rfl rfl rfl (sp_mooringref17_Decode (key) (a) (n) (cap) (bs) _ (by first | rfl | omega | (simp; omega) | (simp; done)) (by omega) (hc.st hS) (by omega) (by omega)) ?_
      rintro _ X43 w ⟨a43, n43, c43, rfl, hl43, hm43, hc43, hR43⟩ hS
      have hS := St.tailin (X := X43) hS [(b6, .cells (#[I (((dcdD key bs : Nat) : Int)), U64 (dcdS key bs), U16 (dcdT key bs), U16 (dcdM key bs), .slice a36 n36 c36]) 27), (t32, .cells (tableC c31 key) 61), (c31, .cells (cipherC key) 70), (b2, .cells (BV key) 22)] (X36 ++ []) rfl
      refine mv rfl rfl rfl ?_
      refine ext rfl rfl rfl rfl ?_
      refine ext rfl rfl rfl rfl ?_
      refine ala zr27 hS rfl rfl ?_
      intro b8 w hb8 hS
      refine sa 0 ag27 hS rfl rfl rfl (by kernel_rfl) rfl rfl rfl ?_
      intro w hS
      refine asg rfl rfl rfl ?_
      refine wq_then ?_
      refine wc_seq ?_
      refine rg ?_
      refine la 1 ag27 hS rfl rfl rfl rfl rfl ?_
      refine la 0 ag27 hS rfl rfl rfl rfl rfl ?_
      refine cv cf16 hS rfl rfl rfl rfl rfl (sp_mooringref17_Same (((dcdD key bs : Nat) : Int)) ((dcdS key bs)) ((dcdT key bs)) ((dcdM key bs)) (a36) (n36) (c36) ((dcdP key bs)) (((dcdD key bs : Nat) : Int)) ((dcdS key bs)) ((dcdT key bs)) ((dcdM key bs)) (a43) (n43) (c43) ((dcdP key bs)) _ hl36 (by omega) (hR36 _ _ _ _ hS (fun p hp => by simp [hp])) hl43 (by omega) (hR43 _ _ _ _ hS (fun p hp => by simp [hp]))) ?_
      intro w hS
      refine notb rfl rfl rfl ?_
      refine wq_then ?_
      refine wc_if rfl (fun hc5 => ?_) (fun hc5 => ?_)
      · skip
        try simp only [SB] at hc5
        exfalso; rw [sameR_self] at hc5; cases hc5
      · skip
        try simp only [SB] at hc5
        refine wc_skip ?_
        refine wq_then ?_
        refine wc_seq ?_
        refine rg ?_
        refine mv rfl rfl rfl ?_
        refine nei rfl rfl rfl rfl ?_
        refine wq_then ?_
        refine wc_if rfl (fun hc6 => ?_) (fun hc6 => ?_)
        · skip
          try simp only [SB] at hc6
          have hE : dcdE key bs ≠ 0 := by omega
          refine rg ?_
          refine mv rfl rfl rfl ?_
          refine mv rfl rfl rfl ?_
          refine mki cc40 rfl rfl rfl ?_
          refine eqEE (c := (dcdE key bs)) Tryz.underlying35 ec40 rfl rfl rfl rfl ?_
          refine asg rfl rfl rfl ?_
          refine wq_then ?_
          refine wc_ret ?_
          refine q_then_ret ?_
          refine fin1 (v := .bool (decide ((((dcdE key bs) : Nat) : Int) = ((dcdE key bs : Nat) : Int) ∧ (dcdE key bs) ≠ 0))) rfl rfl ?_
          refine ⟨?_, hS.drop⟩
          simp [hE]
        · skip
          try simp only [SB] at hc6
          have hE : dcdE key bs = 0 := by omega
          obtain ⟨hC, hA⟩ := again_eq hE
          rw [hl36] at hC
          refine wc_skip ?_
          refine wq_then ?_
          refine rg ?_
          refine mv rfl rfl rfl ?_
          refine la 1 ag27 hS rfl rfl rfl rfl rfl ?_
          refine cs cf9 hS rfl rfl rfl rfl rfl (sp_packet_Encode (t32) (c31) (key) (((dcdD key bs : Nat) : Int)) ((dcdS key bs)) ((dcdT key bs)) ((dcdM key bs)) (a36) (n36) (c36) ((dcdP key bs)) _ (⟨⟨_, hS.get 2 rfl⟩, _, hS.get 3 rfl⟩) hl36 (by omega) (hR36 _ _ _ _ hS (fun p hp => by simp [hp])) (by omega) (hG.st hS)) ?_
          rintro _ X59 w ⟨a59, n59, c59, rfl, hO59⟩ hS
          have hS := St.tailin (X := X59) hS [(b8, .cells (#[I (((dcdD key bs : Nat) : Int)), U64 (dcdS key bs), U16 (dcdT key bs), U16 (dcdM key bs), .slice a43 n43 c43]) 27), (b6, .cells (#[I (((dcdD key bs : Nat) : Int)), U64 (dcdS key bs), U16 (dcdT key bs), U16 (dcdM key bs), .slice a36 n36 c36]) 27), (t32, .cells (tableC c31 key) 61), (c31, .cells (cipherC key) 70), (b2, .cells (BV key) 22)] (X43 ++ (X36 ++ [])) rfl
          have hl59 := hO59.len8
          rw [hA] at hl59
          refine mv rfl rfl rfl ?_
          refine ext rfl rfl rfl rfl ?_
          refine ext rfl rfl rfl rfl ?_
          refine asg rfl rfl rfl ?_
          refine asg rfl rfl rfl ?_
          refine wq_then ?_
          refine rg ?_
          refine mv rfl rfl rfl ?_
          refine eqE (C := 40) (c := (dcdE key bs)) Tryz.underlying35 rfl rfl rfl ?_
          refine mv rfl rfl rfl ?_
          refine spl 64 rfl (fun hb5 => ?_) (fun hb5 => ?_)
          · skip
            try simp only [SB] at hb5
            refine mv rfl rfl rfl ?_
            refine eqE (C := 40) (c := (chk ((dcdD key bs : Nat) : Int) (dcdS key bs) n36)) Tryz.underlying35 rfl rfl rfl ?_
            refine pk_t rfl rfl rfl rfl ?_
            refine mv rfl rfl rfl ?_
            refine spl 68 rfl (fun hb6 => ?_) (fun hb6 => ?_)
            · skip
              try simp only [SB] at hb6
              refine mv rfl rfl rfl ?_
              refine mv rfl rfl rfl ?_
              refine cv cf13 hS rfl rfl rfl rfl rfl (sp_mooringref01_Same (a59) (n59) (c59) ((encP key ((dcdD key bs : Nat) : Int) (dcdS key bs) (dcdT key bs) (dcdM key bs) (dcdP key bs))) (a) (n) (cap) (bs) _ hO59.len8 (by omega) (hO59.cel hS (fun p hp => by simp [hp])) (by first | rfl | omega | (simp; omega) | (simp; done)) (by omega) (hc.st hS)) ?_
              intro w hS
              refine pk_t rfl rfl rfl rfl ?_
              refine asg rfl rfl rfl ?_
              refine wq_then ?_
              refine wc_ret ?_
              refine fin1 (v := .bool (decide ((encP key ((dcdD key bs : Nat) : Int) (dcdS key bs) (dcdT key bs) (dcdM key bs) (dcdP key bs)) = bs))) rfl rfl ?_
              refine ⟨?_, hS.drop⟩
              rw [hA]; simp
            · skip
              try simp only [SB] at hb6
              exact absurd hC hb6
          · skip
            try simp only [SB] at hb5
            exact absurd hE hb5
end Go.Proofs.XZ

/- PacketDecodes -/

namespace Go.Proofs.YtffhheogdmekdaaGreatDoor.packetDecodesP
open Go Go.ChangeShapes Go.WideShapes Go.ChangeAt Go.RowKit Go.Deep Go.X

theorem own : ownKnob Tryz.prog.godebug = none := by kernel_rfl
theorem laidOut : laidOutB Tryz.prog = true := by kernel_rfl
theorem gTab : Tryz.prog.globalNamed "math/bits.deBruijn64tab" = some 0 := by kernel_rfl
theorem gTabType : (Tryz.prog.globals[0]?).map (·.type) = some 177 := by kernel_rfl
theorem cellsGT : Tryz.prog.cellsOf 177 = 64 := by kernel_rfl
theorem cells5 : Tryz.prog.cellsOf 5 = 1 := by kernel_rfl
theorem rr22 : Tryz.prog.readableRec 22 = true ∧ 22 < Tryz.prog.types.size := ⟨by kernel_rfl, of_decide_eq_true (by kernel_rfl)⟩
theorem rr25 : Tryz.prog.readableRec 25 = true ∧ 25 < Tryz.prog.types.size := ⟨by kernel_rfl, of_decide_eq_true (by kernel_rfl)⟩
theorem ws22 : Tryz.prog.wantsStandIn 22 = false := by kernel_rfl
theorem ws25 : Tryz.prog.wantsStandIn 25 = false := by kernel_rfl
theorem cells22 : Tryz.prog.cellsOf 22 = 16 := by kernel_rfl
theorem reads : ∀ t ∈ Tryz.f4.params.toList, Tryz.prog.readableRec t = true ∧ t < Tryz.prog.types.size := by
  rw [Tryz.params4]; intro t ht
  simp only [List.mem_cons, List.not_mem_nil, or_false] at ht
  rcases ht with rfl | rfl
  · exact rr22
  · exact rr25

/-- what the row's list gives: the table of the numbers of zeros -/
theorem table {W : World} (h : laidMetH Tryz.prog Rows.packetDecodesRow.laid W) : Lib.TabIs Tryz.prog W "math/bits.deBruijn64tab" .u8 deBz :=
  Lib.tabIs_of_head (rest := []) gTab gTabType Tryz.underlying177 Tryz.underlying5 cells5 cellsGT h

set_option maxRecDepth 100000 in
/-- what the walk gives, for every argument and every world that holds the table -/
theorem contract (H : Type) (enc : TypeId × Value → H) (W : World) (base : Nat) (args : Array Value) (ds gs : List (DataW H)) (before : List MemPlace)
    (hval : ∀ (j : Nat) t v, Tryz.f4.params[j]? = some t → args[j]? = some v → Value.okWide Tryz.prog W .any base t v)
    (hW : DataW.Whole enc Tryz.prog Tryz.f4.params.toList Rows.packetDecodesSpec.vars false W args.toList ds gs before) (hL : laidMetH Tryz.prog Rows.packetDecodesRow.laid W) :
    Calls Tryz.prog 4 args W fun e W' => ∃ v, e = .returned v ∧ Rows.packetDecodesSpec.post enc Tryz.prog Tryz.f4 false true false false W args v W' := by
  have hW' := hW
  obtain ⟨p, q, hA0, hV, rfl, hfz, hnd⟩ := hW
  have hA : DataW.TrodAll enc Tryz.prog W 0 (fun _ => true) true Tryz.f4.params.toList args.toList ds p := hA0
  have hAk := hA
  have hlt : ∀ x ∈ p, x.block < W.heap.size := fun x hx => hW'.lt x (by simp [hx])
  rw [Tryz.params4] at hA hval
  obtain ⟨v0, vs0, d0, ds0, p0, q0, hargs, rfl, rfl, h0, r0⟩ := trodAll_cons hA
  obtain ⟨v1, vs1, d1, ds1, p1, q1, rfl, rfl, rfl, h1, r1⟩ := trodAll_cons r0
  obtain ⟨rfl, rfl, rfl⟩ := trodAll_nil r1
  obtain ⟨rfl, rfl⟩ := trodVars_none hV
  have hG : Gl 0 W := gl_of_tab gTab (table hL)
  obtain rfl : args = #[v0, v1] := by cases args; simp_all
  obtain ⟨k0, rfl⟩ := arg_array Tryz.underlying22 Tryz.underlying5 cells5 cells22 (hval 0 22 v0 rfl rfl) h0
  obtain ⟨a1, n1, c1, b1, rfl, hn1, hl1, hc1⟩ := arg_bytes Tryz.underlying25 Tryz.underlying5 cells5 (hval 1 25 v1 rfl rfl) h1
  refine (XZ.sp_mooringlaw17_PacketDecodes k0 a1 n1 c1 b1 W hn1 hc1 hl1 hG).mono fun e W' ⟨he, hS⟩ => ?_
  subst he
  have hb := hS.below
  exact ⟨_, rfl, _, _, _, [], _, [], hW', trodAll_cons_mk (shut_bool Tryz.underlying4 _) trodAll_mk0, args_below laidOut reads hAk hb hlt, rfl, hb.frame _, fun h => by cases h⟩

/-- a world for the witness -/
noncomputable def laidWorld (os : Os) : World :=
  { World.holding Tryz.prog os ⟨#[], #[], []⟩ with heap := (World.holding Tryz.prog os ⟨#[], #[], []⟩).heap.modify 0 fun
      | .cells _ t frozen => .cells (deBz.map fun z => Value.int .u8 z).toArray t frozen
      | o => o }
theorem laid_met (os : Os) : laidMet Tryz.prog Rows.packetDecodesRow.laid ((laidWorld os).forCall (fun _ _ => 0) ⟨#[], #[.agg (List.replicate 16 (Value.int .u8 0)).toArray, .slice none 0 0], []⟩).memory :=
  laidMet_of_run' 8 (by kernel_rfl) (by kernel_rfl)
theorem reading (os : Os) {H : Type} (enc : TypeId × Value → H) : ∃ places, DataW.whole enc Tryz.prog ((laidWorld os).forCall (fun _ _ => 0) ⟨#[], #[.agg (List.replicate 16 (Value.int .u8 0)).toArray, .slice none 0 0], []⟩).memory Tryz.f4.params.toList Rows.packetDecodesSpec.vars false (#[.agg (List.replicate 16 (Value.int .u8 0)).toArray, .slice none 0 0] : Array Value).toList 8 = some ([.agg (List.replicate 16 (DataW.lit (.int .u8 0))), .nil], [], places) :=
  ⟨[], by kernel_rfl⟩

set_option maxRecDepth 100000 in
theorem lifted (os : Os) (started : os.Started) (H : Type) (enc : TypeId × Value → H) (F : Stop.Interp) :
    ReturnsInHanded {} Tryz.checked os 4 .any ((OpenSpec.ofChange Rows.packetDecodesSpec).preRow enc Tryz.prog Tryz.f4 Rows.packetDecodesRow.domain false Rows.packetDecodesRow.laid) (((OpenSpec.ofChange Rows.packetDecodesSpec).at F).post enc Tryz.prog Tryz.f4 false true false false) := by
  obtain ⟨places, hx⟩ := reading os enc
  refine returnsInHanded_of_row (C := Tryz.checked) (s := OpenSpec.ofChange Rows.packetDecodesSpec) own started (by kernel_rfl) Tryz.func4
    (witness_row_at (enc := enc) (C := Tryz.checked) false (laidWorld os) #[.agg (List.replicate 16 (Value.int .u8 0)).toArray, .slice none 0 0] rfl (by kernel_rfl) (by kernel_rfl) (by kernel_rfl)
      (OpenSpec.preRow_of_cond 8 hx (by kernel_rfl) (fun k hk => by cases hk) (by kernel_rfl) (laid_met os))) ?_
  intro W base args ds gs before hval hW _ _ _ hL _ _
  exact contract H enc W base args ds gs before hval hW hL

theorem said : Rows.PacketDecodesSaid :=
  OpenClaim.holds_of_cond 4 Tryz.f4 rfl rfl rfl rfl rfl rfl rfl ⟨rfl, rfl, rfl, rfl, rfl⟩ rfl rfl rfl rfl rfl (by kernel_rfl) Tryz.func4 (by kernel_rfl)
    (of_decide_eq_true (by kernel_rfl)) (by unfold Func.isWrapper; first | (rw [if_pos (by decide +kernel)]; kernel_rfl) | (rw [if_neg (by decide +kernel)]; exact ⟨rfl, rfl⟩))
    (fun os started H enc _ F => by rw [OpenClaim.pre_eq_preRow]; exact lifted os started H enc F)

theorem plain (f : FuncId) (fn : Func) (hf : Tryz.pinned.checked.prog.funcNamed "mooring/mooringlaw17.PacketDecodes" = some f) (hfn : Tryz.pinned.checked.prog.funcs[f]? = some fn) :
    true = Tryz.pinned.checked.prog.looks [] ∧ ∀ (j : Nat) t, fn.params[j]? = some t → Tryz.pinned.checked.prog.wantsStandIn t = false := by
  obtain rfl : f = 4 := Option.some.inj ((show Tryz.prog.funcNamed "mooring/mooringlaw17.PacketDecodes" = some 4 by kernel_rfl).symm.trans hf) |>.symm
  obtain rfl : fn = Tryz.f4 := (Option.some.inj (Tryz.func4.symm.trans hfn)).symm
  refine ⟨by kernel_rfl, fun j t ht => ?_⟩
  rw [Tryz.params4] at ht
  have hm := Array.mem_of_getElem? ht
  simp only [List.mem_toArray, List.mem_cons, List.not_mem_nil, or_false] at hm
  rcases hm with rfl | rfl
  · exact ws22
  · exact ws25
end Go.Proofs.YtffhheogdmekdaaGreatDoor.packetDecodesP
namespace Go.Proofs.YtffhheogdmekdaaGreatDoor
open Go
/-- the tied card -/
theorem packetDecodes_card : Rows.PacketDecodesCardSaid :=
  Claim7.holds_tied_plain_at .later [] _ _ _ _ packetDecodesP.said (fun _ h => by cases h) (by kernel_rfl) (fun _ h => by cases h) packetDecodes_row_tie rfl ⟨rfl, rfl⟩ (by kernel_rfl) rfl packetDecodesP.plain (by kernel_rfl)
#print axioms packetDecodes_card
end Go.Proofs.YtffhheogdmekdaaGreatDoor
