/- For every key and packet, the law PacketMatchesReference of package mooringlaw17 returns true and leaves what it was given as it was; under the condition that the table of the numbers of zeros in package math/bits reads as the program lays it. -/
import Derived.Test.YtffhheogdmekdaaGreatDoorBase7
import Derived.Test.YtffhheogdmekdaaGreatDoorProg
import Derived.Test.YtffhheogdmekdaaGreatDoorCards
import Derived.Test.YtffhheogdmekdaaGreatDoorTie
set_option linter.unusedVariables false
set_option linter.unusedSimpArgs false
set_option linter.unnecessarySimpa false
/- walks -/
namespace Go.Proofs.XZ
open Go Go.X Go.Proofs
set_option maxRecDepth 1000000 in
theorem cf5 : Callable Tryz.prog 5 := ⟨_, Tryz.func5, by kernel_rfl, rfl⟩
set_option maxRecDepth 1000000 in
theorem cf6 : Callable Tryz.prog 6 := ⟨_, Tryz.func6, by kernel_rfl, rfl⟩
set_option maxRecDepth 1000000 in
theorem cf10 : Callable Tryz.prog 10 := ⟨_, Tryz.func10, by kernel_rfl, rfl⟩
set_option maxRecDepth 1000000 in
theorem cf15 : Callable Tryz.prog 15 := ⟨_, Tryz.func15, by kernel_rfl, rfl⟩
set_option maxRecDepth 1000000 in
theorem cf14 : Callable Tryz.prog 14 := ⟨_, Tryz.func14, by kernel_rfl, rfl⟩
set_option maxRecDepth 1000000 in
theorem cf17 : Callable Tryz.prog 17 := ⟨_, Tryz.func17, by kernel_rfl, rfl⟩
end Go.Proofs.XZ

/- walks -/
namespace Go.Proofs.XZ
open Go Go.X Go.Proofs
set_option maxRecDepth 100000 in
theorem sp_mooringlaw17_few (a : Option Addr) (n cap : Nat) (w0 : World) : Calls Tryz.prog 6 #[.slice a n cap] w0 (Ret w0 (.bool (decide (((n : Nat) : Int) ≤ 120)))) := by
  refine enter (args := [.slice a n cap]) Tryz.func6 rfl rfl ?_
  refine startw fun w hS => ?_
  refine rg ?_
  refine asg rfl rfl rfl ?_
  refine wq_then ?_
  refine rg ?_
  refine mv rfl rfl rfl ?_
  refine lens Tryz.underlying25 rfl rfl rfl ?_
  refine leq rfl rfl rfl rfl ?_
  refine asg rfl rfl rfl ?_
  refine wq_then ?_
  refine wc_ret ?_
  refine fin1 (v := .bool (decide (((n : Nat) : Int) ≤ 120))) rfl rfl ?_
  exact ⟨rfl, hS.drop⟩
end Go.Proofs.XZ

/- walks -/
namespace Go.Proofs.XZ
open Go Go.X Go.Proofs
set_option maxRecDepth 100000 in
theorem sp_mooringref04_Affine (b : UInt8) (w0 : World) : Calls Tryz.prog 64 #[U8 b] w0 (Ret w0 (U8 (afR b))) := by
  refine enter (args := [U8 b]) Tryz.func64 rfl rfl ?_
  refine startw fun w hS => ?_
  refine rg ?_
  refine asg rfl rfl rfl ?_
  refine wq_then ?_
  refine rg ?_
  refine asg rfl rfl rfl ?_
  refine wq_then ?_
  refine wc_seq ?_
  refine rg ?_
  refine asg rfl rfl rfl ?_
  refine wq_then ?_
  refine wc_block ?_
  refine wc_loop (σ := Nat) (fun m => [(0, U8 (b)), (2, U8 (0)), (3, I (((afX b m : Nat) : Int))), (4, I ((m : Int)))])
    (fun m w => (m ≤ 8) ∧ St w0 [] [] w) (fun m => 8 - m) 0 ⟨rfl, rfl, rfl, rfl, trivial⟩ ⟨by omega, hS⟩ ?_
  rintro m w ⟨hk, hS⟩
  have hx := afX_le b m (by omega)
  have hp : 0 ≤ (99 : Int) / ((2 ^ m : Nat) : Int) := Int.ediv_nonneg (by omega) (Int.natCast_nonneg _)
  refine wc_seq ?_
  refine rg ?_
  refine mv rfl rfl rfl ?_
  refine lss rfl rfl rfl rfl ?_
  refine wq_then ?_
  refine wc_if rfl (fun hc1 => ?_) (fun hc1 => ?_)
  · skip
    try simp only [SB] at hc1
    refine wc_skip ?_
    refine wq_then ?_
    refine wc_seq ?_
    refine wc_block ?_
    refine rg ?_
    refine mv rfl rfl rfl ?_
    refine cvu64 Tryz.underlying79 ⟨_, Tryz.underlying3⟩ rfl rfl rfl ?_
    refine shrin (m) (toU64_un (by omega) (by omega)) (by omega) rfl rfl rfl rfl ?_
    refine remi (by omega) (by omega) rfl rfl rfl rfl ?_
    refine asg rfl rfl rfl ?_
    refine wq_then ?_
    refine rg ?_
    refine mv rfl rfl rfl ?_
    refine mv rfl rfl rfl ?_
    refine mv rfl rfl rfl ?_
    refine cvu64 Tryz.underlying79 ⟨_, Tryz.underlying3⟩ rfl rfl rfl ?_
    refine shrn8 (m) (toU64_un (by omega) (by omega)) rfl rfl rfl rfl ?_
    refine cvi Tryz.underlying3 ⟨_, Tryz.underlying5⟩ (by have := (shr8 b m).toNat_lt; omega) (by have := (shr8 b m).toNat_lt; omega) rfl rfl rfl ?_
    refine remi (by omega) (by omega) rfl rfl rfl rfl ?_
    refine addi (by omega) (by omega) rfl rfl rfl rfl ?_
    refine asg rfl rfl rfl ?_
    refine wq_then ?_
    refine wc_seq ?_
    refine rg ?_
    refine asg rfl rfl rfl ?_
    refine wq_then ?_
    refine wc_block ?_
    refine wc_loop (σ := Nat) (fun k => [(0, U8 (b)), (2, U8 (0)), (3, I (((afX b m : Nat) : Int))), (4, I ((m : Int))), (5, I (((afN b m k : Nat) : Int))), (6, I ((4 : Int) + (k : Int)))])
      (fun k w => (k ≤ 4) ∧ St w0 [] [] w) (fun k => 4 - k) 0 ⟨rfl, rfl, rfl, rfl, rfl, rfl, trivial⟩ ⟨by omega, hS⟩ ?_
    rintro k w ⟨hk, hS⟩
    have hn := afN_le b m k
    refine wc_seq ?_
    refine rg ?_
    refine mv rfl rfl rfl ?_
    refine lss rfl rfl rfl rfl ?_
    refine wq_then ?_
    refine wc_if rfl (fun hc2 => ?_) (fun hc2 => ?_)
    · skip
      try simp only [SB] at hc2
      refine wc_skip ?_
      refine wq_then ?_
      refine wc_seq ?_
      refine wc_block ?_
      refine wc_region ?_
      refine mv rfl rfl rfl ?_
      refine mv rfl rfl rfl ?_
      refine mv rfl rfl rfl ?_
      refine mv rfl rfl rfl ?_
      refine addi (by omega) (by omega) rfl rfl rfl rfl ?_
      refine remi (by omega) (by omega) rfl rfl rfl rfl ?_
      refine cvu64 Tryz.underlying79 ⟨_, Tryz.underlying3⟩ rfl rfl rfl ?_
      refine shrn8 ((m + (4 + k)) % 8) (toU64_un (by omega) (by omega)) rfl rfl rfl rfl ?_
      refine cvi Tryz.underlying3 ⟨_, Tryz.underlying5⟩ (by have := (shr8 b ((m + (4 + k)) % 8)).toNat_lt; omega) (by have := (shr8 b ((m + (4 + k)) % 8)).toNat_lt; omega) rfl rfl rfl ?_
      refine remi (by omega) (by omega) rfl rfl rfl rfl ?_
      refine addi (by omega) (by omega) rfl rfl rfl rfl ?_
      refine asg rfl rfl rfl ?_
      refine q_block_norm ?_
      refine wq_then ?_
      refine wc_region ?_
      refine mv rfl rfl rfl ?_
      refine addi (by omega) (by omega) rfl rfl rfl rfl ?_
      refine asg rfl rfl rfl ?_
      refine again_q (k + 1) ⟨rfl, rfl, rfl, rfl, lkI rfl (by simp [afN, bt]), lkI rfl (by omega), trivial⟩ ⟨by omega, hS⟩ (by omega)
    · skip
      try simp only [SB] at hc2
      have hk4 : k = 4 := by omega
      subst hk4
      have hn4 := afN_le b m 4
      refine wc_exit ?_
      refine q_then_exit ?_
      refine q_then_exit ?_
      refine q_block_hit ?_
      refine wq_then ?_
      refine wc_region ?_
      refine mv rfl rfl rfl ?_
      refine mv rfl rfl rfl ?_
      refine remi (by omega) (by omega) rfl rfl rfl rfl ?_
      refine mv rfl rfl rfl ?_
      refine cvu64 Tryz.underlying79 ⟨_, Tryz.underlying3⟩ rfl rfl rfl ?_
      refine shlin (m) (toU64_un (by omega) (by omega)) (by omega) (by have h := shb (afN b m 4) m (by omega); omega) (by have h := shb (afN b m 4) m (by omega); omega) rfl rfl rfl rfl ?_
      refine addi (by have h := shb (afN b m 4) m (by omega); omega) (by have h := shb (afN b m 4) m (by omega); omega) rfl rfl rfl rfl ?_
      refine asg rfl rfl rfl ?_
      refine q_block_norm ?_
      refine wq_then ?_
      refine wc_region ?_
      refine mv rfl rfl rfl ?_
      refine addi (by omega) (by omega) rfl rfl rfl rfl ?_
      refine asg rfl rfl rfl ?_
      refine again_q (m + 1) ⟨rfl, rfl, lkI rfl (by simp [afX]), lkI rfl (by first | omega | rfl), trivial⟩ ⟨by omega, hS⟩ (by omega)
  · skip
    try simp only [SB] at hc1
    refine wc_exit ?_
    refine q_then_exit ?_
    refine q_then_exit ?_
    refine q_block_hit ?_
    refine wq_then ?_
    refine rg ?_
    refine mv rfl rfl rfl ?_
    refine cvu8 Tryz.underlying5 ⟨_, Tryz.underlying3⟩ rfl rfl rfl ?_
    refine asg rfl rfl rfl ?_
    refine wq_then ?_
    refine wc_ret ?_
    refine fin1 (v := U8 (toU8 (((afX b m : Nat) : Int)))) rfl rfl ?_
    have hk8 : m = 8 := by omega
    subst hk8
    exact ⟨rfl, hS.drop⟩
end Go.Proofs.XZ

/- walks -/
namespace Go.Proofs.XZ
open Go Go.X Go.Proofs
set_option maxRecDepth 100000 in
theorem sp_mooringref04_Table (w0 : World) : Calls Tryz.prog 41 #[] w0 (Ret w0 (.agg (BV sboxV))) := by
  refine enter (args := []) Tryz.func41 rfl rfl ?_
  refine startw fun w hS => ?_
  refine rg ?_
  refine ala zr46 hS rfl rfl ?_
  intro b0 w hb0 hS
  refine wq_then ?_
  refine rg ?_
  refine ala zr46 hS rfl rfl ?_
  intro b1 w hb1 hS
  refine wq_then ?_
  refine rg ?_
  refine asg rfl rfl rfl ?_
  refine wq_then ?_
  refine wc_seq ?_
  refine rg ?_
  refine asg rfl rfl rfl ?_
  refine wq_then ?_
  refine wc_block ?_
  refine wc_loop (σ := Nat) (fun k => [(0, Ptr b0 0), (1, Ptr b1 0), (2, U8 (pw3R k)), (3, I ((k : Int)))])
    (fun k w => (k ≤ 256) ∧ St w0 [] [(b1, .cells (BV (fill8 256 pw3R (Vector.replicate 256 0) k)) 46), (b0, .cells (BV (Vector.replicate 256 0)) 46)] w) (fun k => 256 - k) 0 ⟨rfl, rfl, rfl, rfl, trivial⟩ ⟨by omega, (by simp only [Nat.zero_mul, Nat.add_zero, fill8_0, fill32_0]; exact hS)⟩ ?_
  rintro k w ⟨hk, hS⟩
  refine wc_seq ?_
  refine rg ?_
  refine mv rfl rfl rfl ?_
  refine lss rfl rfl rfl rfl ?_
  refine wq_then ?_
  refine wc_if rfl (fun hc1 => ?_) (fun hc1 => ?_)
  · skip
    try simp only [SB] at hc1
    refine wc_skip ?_
    refine wq_then ?_
    refine wc_seq ?_
    refine wc_block ?_
    refine rg ?_
    refine mv rfl rfl rfl ?_
    refine mv rfl rfl rfl ?_
    refine ian (k) (k) Tryz.underlying46 sz5 rfl rfl rfl rfl (by omega) (by omega) (by omega) ?_
    refine st (cs' := BV (fill8 256 pw3R (Vector.replicate 256 0) (k + 1))) 0 sz5 hS rfl rfl rfl rfl rfl rfl (by rw [BV_size]; omega) (by rw [BV_set]; exact congrArg BV (fill8_succ pw3R (Vector.replicate 256 0) k)) ?_
    intro w hS
    refine wq_then ?_
    refine wc_region ?_
    refine mv rfl rfl rfl ?_
    refine cv cf63 hS rfl rfl rfl rfl rfl (sp_mooringref03_Mul ((pw3R k)) (3) _) ?_
    intro w hS
    refine asg rfl rfl rfl ?_
    refine q_block_norm ?_
    refine wq_then ?_
    refine wc_region ?_
    refine mv rfl rfl rfl ?_
    refine addi (by omega) (by omega) rfl rfl rfl rfl ?_
    refine asg rfl rfl rfl ?_
    refine again_q (k + 1) ⟨rfl, rfl, rfl, lkI rfl (by first | omega | rfl), trivial⟩ ⟨by omega, hS⟩ (by omega)
  · skip
    try simp only [SB] at hc1
    have hk8 : k = 256 := by omega
    rw [hk8, fill8_n] at hS
    refine wc_exit ?_
    refine q_then_exit ?_
    refine q_then_exit ?_
    refine q_block_hit ?_
    refine wq_then ?_
    refine rg ?_
    refine ala zr46 hS rfl rfl ?_
    intro b4 w hb4 hS
    refine wq_then ?_
    refine rg ?_
    refine cv cf64 hS rfl rfl rfl rfl rfl (sp_mooringref04_Affine (0) _) ?_
    intro w hS
    refine ian (0) (0) Tryz.underlying46 sz5 rfl rfl rfl rfl (by omega) (by omega) (by omega) ?_
    refine st 0 sz5 hS rfl rfl rfl rfl rfl rfl (by rw [BV_size]; omega) (BV_set _ _ (afR 0 : UInt8)) ?_
    intro w hS
    refine wq_then ?_
    refine wc_seq ?_
    refine rg ?_
    refine asg rfl rfl rfl ?_
    refine wq_then ?_
    refine wc_block ?_
    refine wc_loop (σ := Nat) (fun m => [(0, Ptr b0 0), (1, Ptr b1 0), (4, Ptr b4 0), (5, I ((m : Int)))])
      (fun m w => (m ≤ 255) ∧ St w0 [] [(b4, .cells (BV (tbR m)) 46), (b1, .cells (BV pwV) 46), (b0, .cells (BV (Vector.replicate 256 0)) 46)] w) (fun m => 255 - m) 0 ⟨rfl, rfl, rfl, rfl, trivial⟩ ⟨by omega, hS⟩ ?_
    rintro m w ⟨hk, hS⟩
    refine wc_seq ?_
    refine rg ?_
    refine mv rfl rfl rfl ?_
    refine lss rfl rfl rfl rfl ?_
    refine wq_then ?_
    refine wc_if rfl (fun hc2 => ?_) (fun hc2 => ?_)
    · skip
      try simp only [SB] at hc2
      refine wc_skip ?_
      refine wq_then ?_
      refine wc_seq ?_
      refine wc_block ?_
      refine wc_draw mo 8 (fun w => St w0 [] [(b4, .cells (BV (tbR m)) 46), (b1, .cells (BV pwV) 46), (b0, .cells (BV (Vector.replicate 256 0)) 46)] w) ?_
      have hS := hS.drew
      refine dq 0 rfl (by kernel_rfl) (by kernel_rfl) (by kernel_rfl) rfl rfl (fun w hS => mv rfl rfl rfl ⟨rfl, rfl⟩) hS ?_
      refine dq 1 rfl (by kernel_rfl) (by kernel_rfl) (by kernel_rfl) rfl rfl (fun w hS => ian (m) (m) Tryz.underlying46 sz5 rfl rfl rfl rfl (by omega) (by omega) (by omega) ⟨rfl, rfl⟩) hS ?_
      refine dq 2 rfl (by kernel_rfl) (by kernel_rfl) (by kernel_rfl) rfl rfl (fun w hS => lo 1 sc5 hS rfl rfl rfl rfl (BV_get _ m (by omega)) ⟨rfl, rfl⟩) hS ?_
      refine dq 3 rfl (by kernel_rfl) (by kernel_rfl) (by kernel_rfl) rfl rfl (fun w hS => mv rfl rfl rfl ⟨rfl, rfl⟩) hS ?_
      refine dq 4 rfl (by kernel_rfl) (by kernel_rfl) (by kernel_rfl) rfl rfl (fun w hS => subi (by omega) (by omega) rfl rfl rfl rfl ⟨rfl, rfl⟩) hS ?_
      refine dq 5 rfl (by kernel_rfl) (by kernel_rfl) (by kernel_rfl) rfl rfl (fun w hS => ian (255 - m) ((255 - m)) Tryz.underlying46 sz5 rfl rfl rfl rfl (by omega) (by omega) (by omega) ⟨rfl, rfl⟩) hS ?_
      refine dq 6 rfl (by kernel_rfl) (by kernel_rfl) (by kernel_rfl) rfl rfl (fun w hS => lo 1 sc5 hS rfl rfl rfl rfl (BV_get _ (255 - m) (by omega)) ⟨rfl, rfl⟩) hS ?_
      refine dl 7 rfl (by kernel_rfl) ?_
      refine cv cf64 hS rfl rfl rfl rfl rfl (sp_mooringref04_Affine ((gv pwV (255 - m))) _) ?_
      intro w hS
      refine ⟨fun _ => hS, ?_⟩
      refine dl 8 rfl (by kernel_rfl) ?_
      refine ian ((gv pwV m).toNat) (((gv pwV m).toNat)) Tryz.underlying46 sz5 rfl rfl rfl rfl (by omega) (by have := (gv pwV m).toNat_lt; omega) (by omega) ?_
      refine ⟨fun h => (by cases h), ?_⟩
      refine dl 9 rfl (by kernel_rfl) ?_
      refine st 0 sz5 hS rfl rfl rfl rfl rfl rfl (by rw [BV_size]; have := (gv pwV m).toNat_lt; omega) (BV_set _ _ (afR (gv pwV (255 - m)) : UInt8)) ?_
      intro w hS
      refine ⟨fun h => (by cases h), ?_⟩
      refine de (by kernel_rfl) ?_
      refine q_block_norm ?_
      refine wq_then ?_
      refine wc_region ?_
      refine mv rfl rfl rfl ?_
      refine addi (by omega) (by omega) rfl rfl rfl rfl ?_
      refine asg rfl rfl rfl ?_
      refine again_q (m + 1) ⟨rfl, rfl, rfl, lkI rfl (by first | omega | rfl), trivial⟩ ⟨by omega, hS⟩ (by omega)
    · skip
      try simp only [SB] at hc2
      refine wc_exit ?_
      refine q_then_exit ?_
      refine q_then_exit ?_
      refine q_block_hit ?_
      refine wq_then ?_
      refine rg ?_
      refine la 0 ag46 hS rfl rfl rfl rfl (BV_size _) ?_
      refine sa 2 ag46 hS rfl rfl rfl (BV_one _) rfl (BV_size _) (BV_size _) ?_
      intro w hS
      refine wq_then ?_
      refine wc_ret ?_
      refine fin1 (v := .agg (BV (tbR m))) rfl ⟨_, rfl, lv_a ag46 (hS.get 2 rfl) (BV_size _)⟩ ?_
      refine ⟨?_, hS.drop⟩
      have hk5 : m = 255 := by omega
      rw [hk5, tbR_sbox]
end Go.Proofs.XZ

/- walks -/
namespace Go.Proofs.XZ
open Go Go.X Go.Proofs
set_option maxRecDepth 100000 in
theorem sp_mooringref03_Power (a : UInt8) (n : Nat) (n_ : Int) (w0 : World) (hn_ : n_ = (n : Int)) (hn : n < 9223372036854775808) : Calls Tryz.prog 99 #[U8 a, I n_] w0 (Ret w0 (U8 (pwR a n))) := by
  subst hn_
  refine enter (args := [U8 a, I (n : Int)]) Tryz.func99 rfl rfl ?_
  refine startw fun w hS => ?_
  refine rg ?_
  refine asg rfl rfl rfl ?_
  refine wq_then ?_
  refine rg ?_
  refine asg rfl rfl rfl ?_
  refine wq_then ?_
  refine wc_seq ?_
  refine rg ?_
  refine asg rfl rfl rfl ?_
  refine wq_then ?_
  refine wc_block ?_
  refine wc_loop (σ := Nat) (fun k => [(0, U8 (a)), (1, I ((n : Int))), (4, U8 (0)), (5, U8 (pwR a k)), (6, I ((k : Int)))])
    (fun k w => (k ≤ n ∧ n < 9223372036854775808) ∧ St w0 [] [] w) (fun k => n - k) 0 ⟨rfl, rfl, rfl, rfl, rfl, trivial⟩ ⟨⟨by omega, hn⟩, hS⟩ ?_
  rintro k w ⟨⟨hk, hn2⟩, hS⟩
  refine wc_seq ?_
  refine rg ?_
  refine mv rfl rfl rfl ?_
  refine mv rfl rfl rfl ?_
  refine lss rfl rfl rfl rfl ?_
  refine wq_then ?_
  refine wc_if rfl (fun hc1 => ?_) (fun hc1 => ?_)
  · skip
    try simp only [SB] at hc1
    refine wc_skip ?_
    refine wq_then ?_
    refine wc_seq ?_
    refine wc_block ?_
    refine wc_region ?_
    refine mv rfl rfl rfl ?_
    refine mv rfl rfl rfl ?_
    refine cv cf63 hS rfl rfl rfl rfl rfl (sp_mooringref03_Mul ((pwR a k)) (a) _) ?_
    intro w hS
    refine asg rfl rfl rfl ?_
    refine q_block_norm ?_
    refine wq_then ?_
    refine wc_region ?_
    refine mv rfl rfl rfl ?_
    refine addi (by omega) (by omega) rfl rfl rfl rfl ?_
    refine asg rfl rfl rfl ?_
    refine again_q (k + 1) ⟨rfl, rfl, rfl, rfl, lkI rfl (by first | omega | rfl), trivial⟩ ⟨⟨by omega, hn2⟩, hS⟩ (by omega)
  · skip
    try simp only [SB] at hc1
    refine wc_exit ?_
    refine q_then_exit ?_
    refine q_then_exit ?_
    refine q_block_hit ?_
    refine wq_then ?_
    refine rg ?_
    refine mv rfl rfl rfl ?_
    refine asg rfl rfl rfl ?_
    refine wq_then ?_
    refine wc_ret ?_
    refine fin1 (v := U8 (pwR a k)) rfl rfl ?_
    have hk4 : k = n := by omega
    subst hk4
    exact ⟨rfl, hS.drop⟩
end Go.Proofs.XZ

/- walks -/
namespace Go.Proofs.XZ
open Go Go.X Go.Proofs
set_option maxRecDepth 100000 in
set_option maxHeartbeats 1000000 in
theorem sp_mooringref05_Words (key : V8 16) (w0 : World) : Calls Tryz.prog 62 #[.agg (BV key)] w0 (Ret w0 (.agg (BV (wdS key 44)))) := by
  refine enter (args := [.agg (BV key)]) Tryz.func62 rfl rfl ?_
  refine startw fun w hS => ?_
  refine rg ?_
  refine bxa hS rfl rfl rfl ?_
  intro b1 w hb1 hS
  refine ala zr117 hS rfl rfl ?_
  intro b2 w hb2 hS
  refine wq_then ?_
  refine rg ?_
  refine cv cf41 hS rfl rfl rfl rfl rfl (sp_mooringref04_Table _) ?_
  intro w hS
  refine ala zr46 hS rfl rfl ?_
  intro b3 w hb3 hS
  refine sa 0 ag46 hS rfl rfl rfl (BV_one _) rfl (BV_size _) (BV_size _) ?_
  intro w hS
  refine wq_then ?_
  refine rg ?_
  refine ala zr117 hS rfl rfl ?_
  intro b4 w hb4 hS
  refine wq_then ?_
  refine wc_seq ?_
  refine rg ?_
  refine asg rfl rfl rfl ?_
  refine wq_then ?_
  refine wc_block ?_
  refine wc_loop (σ := Nat) (fun m => [(1, Ptr b1 0), (2, Ptr b2 0), (3, Ptr b3 0), (4, Ptr b4 0), (5, I ((m : Int)))])
    (fun m w => (m ≤ 44) ∧ St w0 [] [(b4, .cells (BV (wdS key m)) 117), (b3, .cells (BV sboxV) 46), (b2, .cells (BV (Vector.replicate 176 0)) 117), (b1, .cells (BV key) 22)] w) (fun m => 44 - m) 0 ⟨rfl, rfl, rfl, rfl, rfl, trivial⟩ ⟨by omega, hS⟩ ?_
  rintro m w ⟨hk, hS⟩
  refine wc_seq ?_
  refine rg ?_
  refine mv rfl rfl rfl ?_
  refine lss rfl rfl rfl rfl ?_
  refine wq_then ?_
  refine wc_if rfl (fun hc1 => ?_) (fun hc1 => ?_)
  · skip
    try simp only [SB] at hc1
    refine wc_skip ?_
    refine wq_then ?_
    refine wc_seq ?_
    refine wc_block ?_
    refine wc_seq ?_
    refine rg ?_
    refine mv rfl rfl rfl ?_
    refine lss rfl rfl rfl rfl ?_
    refine wq_then ?_
    refine wc_if rfl (fun hc2 => ?_) (fun hc2 => ?_)
    · skip
      try simp only [SB] at hc2
      have hi4 : m < 4 := by omega
      refine rd mo 21 (fun w => St w0 [] [(b3, .cells (BV sboxV) 46), (b2, .cells (BV (Vector.replicate 176 0)) 117), (b1, .cells (BV key) 22)] w) ?_
      have hS := hS.drew
      refine dq 0 rfl (by kernel_rfl) (by kernel_rfl) (by kernel_rfl) rfl rfl (fun w hS => mv rfl rfl rfl ⟨rfl, rfl⟩) (hS.sublist (.cons _ (.cons_cons _ (.cons_cons _ (.cons_cons _ (List.nil_sublist _)))))) ?_
      refine dq 1 rfl (by kernel_rfl) (by kernel_rfl) (by kernel_rfl) rfl rfl (fun w hS => mv rfl rfl rfl ⟨rfl, rfl⟩) (hS.sublist (.cons _ (.cons_cons _ (.cons_cons _ (.cons_cons _ (List.nil_sublist _)))))) ?_
      refine dq 2 rfl (by kernel_rfl) (by kernel_rfl) (by kernel_rfl) rfl rfl (fun w hS => muli (by omega) (by omega) rfl rfl rfl rfl ⟨rfl, rfl⟩) (hS.sublist (.cons _ (.cons_cons _ (.cons_cons _ (.cons_cons _ (List.nil_sublist _)))))) ?_
      refine dq 3 rfl (by kernel_rfl) (by kernel_rfl) (by kernel_rfl) rfl rfl (fun w hS => ian (4 * m) ((4 * m)) Tryz.underlying22 sz5 rfl rfl rfl rfl (by omega) (by omega) (by omega) ⟨rfl, rfl⟩) (hS.sublist (.cons _ (.cons_cons _ (.cons_cons _ (.cons_cons _ (List.nil_sublist _)))))) ?_
      refine dq 4 rfl (by kernel_rfl) (by kernel_rfl) (by kernel_rfl) rfl rfl (fun w hS => lo 2 sc5 hS rfl rfl rfl rfl (BV_get _ (4 * m) (by omega)) ⟨rfl, rfl⟩) (hS.sublist (.cons _ (.cons_cons _ (.cons_cons _ (.cons_cons _ (List.nil_sublist _)))))) ?_
      refine dq 5 rfl (by kernel_rfl) (by kernel_rfl) (by kernel_rfl) rfl rfl (fun w hS => mv rfl rfl rfl ⟨rfl, rfl⟩) (hS.sublist (.cons _ (.cons_cons _ (.cons_cons _ (.cons_cons _ (List.nil_sublist _)))))) ?_
      refine dq 6 rfl (by kernel_rfl) (by kernel_rfl) (by kernel_rfl) rfl rfl (fun w hS => muli (by omega) (by omega) rfl rfl rfl rfl ⟨rfl, rfl⟩) (hS.sublist (.cons _ (.cons_cons _ (.cons_cons _ (.cons_cons _ (List.nil_sublist _)))))) ?_
      refine dq 7 rfl (by kernel_rfl) (by kernel_rfl) (by kernel_rfl) rfl rfl (fun w hS => addi (by omega) (by omega) rfl rfl rfl rfl ⟨rfl, rfl⟩) (hS.sublist (.cons _ (.cons_cons _ (.cons_cons _ (.cons_cons _ (List.nil_sublist _)))))) ?_
      refine dq 8 rfl (by kernel_rfl) (by kernel_rfl) (by kernel_rfl) rfl rfl (fun w hS => ian ((4 * m) + 1) (((4 * m) + 1)) Tryz.underlying22 sz5 rfl rfl rfl rfl (by omega) (by omega) (by omega) ⟨rfl, rfl⟩) (hS.sublist (.cons _ (.cons_cons _ (.cons_cons _ (.cons_cons _ (List.nil_sublist _)))))) ?_
      refine dq 9 rfl (by kernel_rfl) (by kernel_rfl) (by kernel_rfl) rfl rfl (fun w hS => lo 2 sc5 hS rfl rfl rfl rfl (BV_get _ ((4 * m) + 1) (by omega)) ⟨rfl, rfl⟩) (hS.sublist (.cons _ (.cons_cons _ (.cons_cons _ (.cons_cons _ (List.nil_sublist _)))))) ?_
      refine dq 10 rfl (by kernel_rfl) (by kernel_rfl) (by kernel_rfl) rfl rfl (fun w hS => mv rfl rfl rfl ⟨rfl, rfl⟩) (hS.sublist (.cons _ (.cons_cons _ (.cons_cons _ (.cons_cons _ (List.nil_sublist _)))))) ?_
      refine dq 11 rfl (by kernel_rfl) (by kernel_rfl) (by kernel_rfl) rfl rfl (fun w hS => muli (by omega) (by omega) rfl rfl rfl rfl ⟨rfl, rfl⟩) (hS.sublist (.cons _ (.cons_cons _ (.cons_cons _ (.cons_cons _ (List.nil_sublist _)))))) ?_
      refine dq 12 rfl (by kernel_rfl) (by kernel_rfl) (by kernel_rfl) rfl rfl (fun w hS => addi (by omega) (by omega) rfl rfl rfl rfl ⟨rfl, rfl⟩) (hS.sublist (.cons _ (.cons_cons _ (.cons_cons _ (.cons_cons _ (List.nil_sublist _)))))) ?_
      refine dq 13 rfl (by kernel_rfl) (by kernel_rfl) (by kernel_rfl) rfl rfl (fun w hS => ian ((4 * m) + 2) (((4 * m) + 2)) Tryz.underlying22 sz5 rfl rfl rfl rfl (by omega) (by omega) (by omega) ⟨rfl, rfl⟩) (hS.sublist (.cons _ (.cons_cons _ (.cons_cons _ (.cons_cons _ (List.nil_sublist _)))))) ?_
      refine dq 14 rfl (by kernel_rfl) (by kernel_rfl) (by kernel_rfl) rfl rfl (fun w hS => lo 2 sc5 hS rfl rfl rfl rfl (BV_get _ ((4 * m) + 2) (by omega)) ⟨rfl, rfl⟩) (hS.sublist (.cons _ (.cons_cons _ (.cons_cons _ (.cons_cons _ (List.nil_sublist _)))))) ?_
      refine dq 15 rfl (by kernel_rfl) (by kernel_rfl) (by kernel_rfl) rfl rfl (fun w hS => mv rfl rfl rfl ⟨rfl, rfl⟩) (hS.sublist (.cons _ (.cons_cons _ (.cons_cons _ (.cons_cons _ (List.nil_sublist _)))))) ?_
      refine dq 16 rfl (by kernel_rfl) (by kernel_rfl) (by kernel_rfl) rfl rfl (fun w hS => muli (by omega) (by omega) rfl rfl rfl rfl ⟨rfl, rfl⟩) (hS.sublist (.cons _ (.cons_cons _ (.cons_cons _ (.cons_cons _ (List.nil_sublist _)))))) ?_
      refine dq 17 rfl (by kernel_rfl) (by kernel_rfl) (by kernel_rfl) rfl rfl (fun w hS => addi (by omega) (by omega) rfl rfl rfl rfl ⟨rfl, rfl⟩) (hS.sublist (.cons _ (.cons_cons _ (.cons_cons _ (.cons_cons _ (List.nil_sublist _)))))) ?_
      refine dq 18 rfl (by kernel_rfl) (by kernel_rfl) (by kernel_rfl) rfl rfl (fun w hS => ian ((4 * m) + 3) (((4 * m) + 3)) Tryz.underlying22 sz5 rfl rfl rfl rfl (by omega) (by omega) (by omega) ⟨rfl, rfl⟩) (hS.sublist (.cons _ (.cons_cons _ (.cons_cons _ (.cons_cons _ (List.nil_sublist _)))))) ?_
      refine dq 19 rfl (by kernel_rfl) (by kernel_rfl) (by kernel_rfl) rfl rfl (fun w hS => lo 2 sc5 hS rfl rfl rfl rfl (BV_get _ ((4 * m) + 3) (by omega)) ⟨rfl, rfl⟩) (hS.sublist (.cons _ (.cons_cons _ (.cons_cons _ (.cons_cons _ (List.nil_sublist _)))))) ?_
      refine dq 20 rfl (by kernel_rfl) (by kernel_rfl) (by kernel_rfl) rfl rfl (fun w hS => bd (cs := BV (#v[gv key (4 * m), gv key ((4 * m) + 1), gv key ((4 * m) + 2), gv key ((4 * m) + 3)])) rfl rfl rfl (by kernel_rfl) ⟨rfl, rfl⟩) (hS.sublist (.cons _ (.cons_cons _ (.cons_cons _ (.cons_cons _ (List.nil_sublist _)))))) ?_
      refine dl 21 rfl (by kernel_rfl) ?_
      refine ian (m) (m * 4) Tryz.underlying117 sz107 rfl rfl rfl rfl (by omega) (by omega) (by omega) ?_
      refine ⟨fun h => (by cases h), ?_⟩
      refine dl 22 rfl (by kernel_rfl) ?_
      refine spp (cs' := BV (put8 (wdS key m) (m * 4) (#v[gv key (4 * m), gv key ((4 * m) + 1), gv key ((4 * m) + 2), gv key ((4 * m) + 3)]))) 0 ag107 hS rfl rfl rfl (BV_one _) rfl (le_sz (a := 176) (BV_size _) (by omega)) (BV_size _) (BV_put _ _ _ (by omega)) ?_
      intro w hS
      refine ⟨fun h => (by cases h), ?_⟩
      refine de (by kernel_rfl) ?_
      refine wq_then ?_
      refine wc_exit ?_
      refine q_then_exit ?_
      refine q_block_hit ?_
      refine wq_then ?_
      refine wc_region ?_
      refine mv rfl rfl rfl ?_
      refine addi (by omega) (by omega) rfl rfl rfl rfl ?_
      refine asg rfl rfl rfl ?_
      refine again_q (m + 1) ⟨rfl, rfl, rfl, rfl, lkI rfl (by first | omega | rfl), trivial⟩ ⟨by omega, (by rw [wd_lo hi4]; exact hS)⟩ (by omega)
    · skip
      try simp only [SB] at hc2
      have hi4 : ¬ m < 4 := by omega
      refine wc_skip ?_
      refine wq_then ?_
      refine rg ?_
      refine mv rfl rfl rfl ?_
      refine subi (by omega) (by omega) rfl rfl rfl rfl ?_
      refine ian (m - 1) ((m - 1) * 4) Tryz.underlying117 sz107 rfl rfl rfl rfl (by omega) (by omega) (by omega) ?_
      refine lp (u := .agg (BV (seg8 4 (wdS key m) ((m - 1) * 4)))) 0 ag107 hS rfl rfl rfl rfl (by rw [BV_size]; omega) (BV_extract 4 _ ((m - 1) * 4) (by omega)) rfl ?_
      refine ala zr107 hS rfl rfl ?_
      intro b6 w hb6 hS
      refine sa 0 ag107 hS rfl rfl rfl (BV_one _) rfl (BV_size _) (BV_size _) ?_
      intro w hS
      refine wq_then ?_
      refine wc_seq ?_
      refine rg ?_
      refine mv rfl rfl rfl ?_
      refine remi (by omega) (by omega) rfl rfl rfl rfl ?_
      refine eqi rfl rfl rfl rfl ?_
      refine wq_then ?_
      refine wc_if rfl (fun hc3 => ?_) (fun hc3 => ?_)
      · skip
        try simp only [SB] at hc3
        have h0 : m % 4 = 0 := by omega
        refine rd mo 17 (fun w => St w0 [] [(b6, .cells (BV (seg8 4 (wdS key m) ((m - 1) * 4))) 107), (b4, .cells (BV (wdS key m)) 117), (b3, .cells (BV sboxV) 46), (b2, .cells (BV (Vector.replicate 176 0)) 117), (b1, .cells (BV key) 22)] w) ?_
        have hS := hS.drew
        refine dq 0 rfl (by kernel_rfl) (by kernel_rfl) (by kernel_rfl) rfl rfl (fun w hS => ian (1) (1) Tryz.underlying107 sz5 rfl rfl rfl rfl (by omega) (by omega) (by omega) ⟨rfl, rfl⟩) hS ?_
        refine dq 1 rfl (by kernel_rfl) (by kernel_rfl) (by kernel_rfl) rfl rfl (fun w hS => lo 0 sc5 hS rfl rfl rfl rfl (BV_get _ 1 (by omega)) ⟨rfl, rfl⟩) hS ?_
        refine dq 2 rfl (by kernel_rfl) (by kernel_rfl) (by kernel_rfl) rfl rfl (fun w hS => ian ((gv (seg8 4 (wdS key m) ((m - 1) * 4)) 1).toNat) (((gv (seg8 4 (wdS key m) ((m - 1) * 4)) 1).toNat)) Tryz.underlying46 sz5 rfl rfl rfl rfl (by omega) (by have := (gv (seg8 4 (wdS key m) ((m - 1) * 4)) 1).toNat_lt; omega) (by omega) ⟨rfl, rfl⟩) hS ?_
        refine dq 3 rfl (by kernel_rfl) (by kernel_rfl) (by kernel_rfl) rfl rfl (fun w hS => lo 2 sc5 hS rfl rfl rfl rfl (BV_get _ ((gv (seg8 4 (wdS key m) ((m - 1) * 4)) 1).toNat) (by have := (gv (seg8 4 (wdS key m) ((m - 1) * 4)) 1).toNat_lt; omega)) ⟨rfl, rfl⟩) hS ?_
        refine dq 4 rfl (by kernel_rfl) (by kernel_rfl) (by kernel_rfl) rfl rfl (fun w hS => ian (2) (2) Tryz.underlying107 sz5 rfl rfl rfl rfl (by omega) (by omega) (by omega) ⟨rfl, rfl⟩) hS ?_
        refine dq 5 rfl (by kernel_rfl) (by kernel_rfl) (by kernel_rfl) rfl rfl (fun w hS => lo 0 sc5 hS rfl rfl rfl rfl (BV_get _ 2 (by omega)) ⟨rfl, rfl⟩) hS ?_
        refine dq 6 rfl (by kernel_rfl) (by kernel_rfl) (by kernel_rfl) rfl rfl (fun w hS => ian ((gv (seg8 4 (wdS key m) ((m - 1) * 4)) 2).toNat) (((gv (seg8 4 (wdS key m) ((m - 1) * 4)) 2).toNat)) Tryz.underlying46 sz5 rfl rfl rfl rfl (by omega) (by have := (gv (seg8 4 (wdS key m) ((m - 1) * 4)) 2).toNat_lt; omega) (by omega) ⟨rfl, rfl⟩) hS ?_
        refine dq 7 rfl (by kernel_rfl) (by kernel_rfl) (by kernel_rfl) rfl rfl (fun w hS => lo 2 sc5 hS rfl rfl rfl rfl (BV_get _ ((gv (seg8 4 (wdS key m) ((m - 1) * 4)) 2).toNat) (by have := (gv (seg8 4 (wdS key m) ((m - 1) * 4)) 2).toNat_lt; omega)) ⟨rfl, rfl⟩) hS ?_
        refine dq 8 rfl (by kernel_rfl) (by kernel_rfl) (by kernel_rfl) rfl rfl (fun w hS => ian (3) (3) Tryz.underlying107 sz5 rfl rfl rfl rfl (by omega) (by omega) (by omega) ⟨rfl, rfl⟩) hS ?_
        refine dq 9 rfl (by kernel_rfl) (by kernel_rfl) (by kernel_rfl) rfl rfl (fun w hS => lo 0 sc5 hS rfl rfl rfl rfl (BV_get _ 3 (by omega)) ⟨rfl, rfl⟩) hS ?_
        refine dq 10 rfl (by kernel_rfl) (by kernel_rfl) (by kernel_rfl) rfl rfl (fun w hS => ian ((gv (seg8 4 (wdS key m) ((m - 1) * 4)) 3).toNat) (((gv (seg8 4 (wdS key m) ((m - 1) * 4)) 3).toNat)) Tryz.underlying46 sz5 rfl rfl rfl rfl (by omega) (by have := (gv (seg8 4 (wdS key m) ((m - 1) * 4)) 3).toNat_lt; omega) (by omega) ⟨rfl, rfl⟩) hS ?_
        refine dq 11 rfl (by kernel_rfl) (by kernel_rfl) (by kernel_rfl) rfl rfl (fun w hS => lo 2 sc5 hS rfl rfl rfl rfl (BV_get _ ((gv (seg8 4 (wdS key m) ((m - 1) * 4)) 3).toNat) (by have := (gv (seg8 4 (wdS key m) ((m - 1) * 4)) 3).toNat_lt; omega)) ⟨rfl, rfl⟩) hS ?_
        refine dq 12 rfl (by kernel_rfl) (by kernel_rfl) (by kernel_rfl) rfl rfl (fun w hS => ian (0) (0) Tryz.underlying107 sz5 rfl rfl rfl rfl (by omega) (by omega) (by omega) ⟨rfl, rfl⟩) hS ?_
        refine dq 13 rfl (by kernel_rfl) (by kernel_rfl) (by kernel_rfl) rfl rfl (fun w hS => lo 0 sc5 hS rfl rfl rfl rfl (BV_get _ 0 (by omega)) ⟨rfl, rfl⟩) hS ?_
        refine dq 14 rfl (by kernel_rfl) (by kernel_rfl) (by kernel_rfl) rfl rfl (fun w hS => ian ((gv (seg8 4 (wdS key m) ((m - 1) * 4)) 0).toNat) (((gv (seg8 4 (wdS key m) ((m - 1) * 4)) 0).toNat)) Tryz.underlying46 sz5 rfl rfl rfl rfl (by omega) (by have := (gv (seg8 4 (wdS key m) ((m - 1) * 4)) 0).toNat_lt; omega) (by omega) ⟨rfl, rfl⟩) hS ?_
        refine dq 15 rfl (by kernel_rfl) (by kernel_rfl) (by kernel_rfl) rfl rfl (fun w hS => lo 2 sc5 hS rfl rfl rfl rfl (BV_get _ ((gv (seg8 4 (wdS key m) ((m - 1) * 4)) 0).toNat) (by have := (gv (seg8 4 (wdS key m) ((m - 1) * 4)) 0).toNat_lt; omega)) ⟨rfl, rfl⟩) hS ?_
        refine dq 16 rfl (by kernel_rfl) (by kernel_rfl) (by kernel_rfl) rfl rfl (fun w hS => bd (cs := BV (#v[gv sboxV ((gv (seg8 4 (wdS key m) ((m - 1) * 4)) 1).toNat), gv sboxV ((gv (seg8 4 (wdS key m) ((m - 1) * 4)) 2).toNat), gv sboxV ((gv (seg8 4 (wdS key m) ((m - 1) * 4)) 3).toNat), gv sboxV ((gv (seg8 4 (wdS key m) ((m - 1) * 4)) 0).toNat)])) rfl rfl rfl (by kernel_rfl) ⟨rfl, rfl⟩) hS ?_
        refine dl 17 rfl (by kernel_rfl) ?_
        refine sa 0 ag107 hS rfl rfl rfl (BV_one _) rfl (BV_size _) (BV_size _) ?_
        intro w hS
        refine ⟨fun h => (by cases h), ?_⟩
        refine de (by kernel_rfl) ?_
        refine wq_then ?_
        refine wc_draw mo 7 (fun w => St w0 [] [(b6, .cells (BV (#v[gv sboxV ((gv (seg8 4 (wdS key m) ((m - 1) * 4)) 1).toNat), gv sboxV ((gv (seg8 4 (wdS key m) ((m - 1) * 4)) 2).toNat), gv sboxV ((gv (seg8 4 (wdS key m) ((m - 1) * 4)) 3).toNat), gv sboxV ((gv (seg8 4 (wdS key m) ((m - 1) * 4)) 0).toNat)])) 107), (b4, .cells (BV (wdS key m)) 117), (b3, .cells (BV sboxV) 46), (b2, .cells (BV (Vector.replicate 176 0)) 117), (b1, .cells (BV key) 22)] w) ?_
        have hS := hS.drew
        refine dq 0 rfl (by kernel_rfl) (by kernel_rfl) (by kernel_rfl) rfl rfl (fun w hS => ian (0) (0) Tryz.underlying107 sz5 rfl rfl rfl rfl (by omega) (by omega) (by omega) ⟨rfl, rfl⟩) hS ?_
        refine dq 1 rfl (by kernel_rfl) (by kernel_rfl) (by kernel_rfl) rfl rfl (fun w hS => lo 0 sc5 hS rfl rfl rfl rfl (BV_get _ 0 (by omega)) ⟨rfl, rfl⟩) hS ?_
        refine dq 2 rfl (by kernel_rfl) (by kernel_rfl) (by kernel_rfl) rfl rfl (fun w hS => mv rfl rfl rfl ⟨rfl, rfl⟩) hS ?_
        refine dq 3 rfl (by kernel_rfl) (by kernel_rfl) (by kernel_rfl) rfl rfl (fun w hS => quoi (by omega) (by omega) (by omega) rfl rfl rfl rfl ⟨rfl, rfl⟩) hS ?_
        refine dq 4 rfl (by kernel_rfl) (by kernel_rfl) (by kernel_rfl) rfl rfl (fun w hS => subi (by omega) (by omega) rfl rfl rfl rfl ⟨rfl, rfl⟩) hS ?_
        refine dl 5 rfl (by kernel_rfl) ?_
        refine cv cf99 hS rfl rfl rfl rfl rfl (sp_mooringref03_Power (2) (((m / 4) - 1)) _ _ (by omega) (by omega)) ?_
        intro w hS
        refine ⟨fun _ => hS, ?_⟩
        refine dq 6 rfl (by kernel_rfl) (by kernel_rfl) (by kernel_rfl) rfl rfl (fun w hS => xor8 rfl rfl rfl rfl ⟨rfl, rfl⟩) hS ?_
        refine dl 7 rfl (by kernel_rfl) ?_
        refine ian (0) (0) Tryz.underlying107 sz5 rfl rfl rfl rfl (by omega) (by omega) (by omega) ?_
        refine ⟨fun h => (by cases h), ?_⟩
        refine dl 8 rfl (by kernel_rfl) ?_
        refine st 0 sz5 hS rfl rfl rfl rfl rfl rfl (by rw [BV_size]; omega) (BV_set _ _ ((gv (#v[gv sboxV ((gv (seg8 4 (wdS key m) ((m - 1) * 4)) 1).toNat), gv sboxV ((gv (seg8 4 (wdS key m) ((m - 1) * 4)) 2).toNat), gv sboxV ((gv (seg8 4 (wdS key m) ((m - 1) * 4)) 3).toNat), gv sboxV ((gv (seg8 4 (wdS key m) ((m - 1) * 4)) 0).toNat)]) 0) ^^^ (pwR 2 ((m / 4) - 1)) : UInt8)) ?_
        intro w hS
        refine ⟨fun h => (by cases h), ?_⟩
        refine de (by kernel_rfl) ?_
        refine wq_then ?_
        refine rg ?_
        refine asg rfl rfl rfl ?_
        refine wq_then ?_
        refine wc_block ?_
        refine wc_loop (σ := Nat) (fun k => [(1, Ptr b1 0), (2, Ptr b2 0), (3, Ptr b3 0), (4, Ptr b4 0), (5, I ((m : Int))), (6, Ptr b6 0), (7, I ((k : Int)))])
          (fun k w => (k ≤ 4) ∧ St w0 [] [(b6, .cells (BV ((#v[gv sboxV ((gv (seg8 4 (wdS key m) ((m - 1) * 4)) 1).toNat), gv sboxV ((gv (seg8 4 (wdS key m) ((m - 1) * 4)) 2).toNat), gv sboxV ((gv (seg8 4 (wdS key m) ((m - 1) * 4)) 3).toNat), gv sboxV ((gv (seg8 4 (wdS key m) ((m - 1) * 4)) 0).toNat)]).setIfInBounds 0 ((gv (#v[gv sboxV ((gv (seg8 4 (wdS key m) ((m - 1) * 4)) 1).toNat), gv sboxV ((gv (seg8 4 (wdS key m) ((m - 1) * 4)) 2).toNat), gv sboxV ((gv (seg8 4 (wdS key m) ((m - 1) * 4)) 3).toNat), gv sboxV ((gv (seg8 4 (wdS key m) ((m - 1) * 4)) 0).toNat)]) 0) ^^^ (pwR 2 ((m / 4) - 1))))) 107), (b4, .cells (BV (wdIn (wdS key m) ((#v[gv sboxV ((gv (seg8 4 (wdS key m) ((m - 1) * 4)) 1).toNat), gv sboxV ((gv (seg8 4 (wdS key m) ((m - 1) * 4)) 2).toNat), gv sboxV ((gv (seg8 4 (wdS key m) ((m - 1) * 4)) 3).toNat), gv sboxV ((gv (seg8 4 (wdS key m) ((m - 1) * 4)) 0).toNat)]).setIfInBounds 0 ((gv (#v[gv sboxV ((gv (seg8 4 (wdS key m) ((m - 1) * 4)) 1).toNat), gv sboxV ((gv (seg8 4 (wdS key m) ((m - 1) * 4)) 2).toNat), gv sboxV ((gv (seg8 4 (wdS key m) ((m - 1) * 4)) 3).toNat), gv sboxV ((gv (seg8 4 (wdS key m) ((m - 1) * 4)) 0).toNat)]) 0) ^^^ (pwR 2 ((m / 4) - 1)))) m k)) 117), (b3, .cells (BV sboxV) 46), (b2, .cells (BV (Vector.replicate 176 0)) 117), (b1, .cells (BV key) 22)] w) (fun k => 4 - k) 0 ⟨rfl, rfl, rfl, rfl, rfl, rfl, rfl, trivial⟩ ⟨by omega, hS⟩ ?_
        rintro k w ⟨hk, hS⟩
        refine wc_seq ?_
        refine rg ?_
        refine mv rfl rfl rfl ?_
        refine lss rfl rfl rfl rfl ?_
        refine wq_then ?_
        refine wc_if rfl (fun hc4 => ?_) (fun hc4 => ?_)
        · skip
          try simp only [SB] at hc4
          refine wc_skip ?_
          refine wq_then ?_
          refine wc_seq ?_
          refine wc_block ?_
          refine wc_draw mo 15 (fun w => St w0 [] [(b6, .cells (BV ((#v[gv sboxV ((gv (seg8 4 (wdS key m) ((m - 1) * 4)) 1).toNat), gv sboxV ((gv (seg8 4 (wdS key m) ((m - 1) * 4)) 2).toNat), gv sboxV ((gv (seg8 4 (wdS key m) ((m - 1) * 4)) 3).toNat), gv sboxV ((gv (seg8 4 (wdS key m) ((m - 1) * 4)) 0).toNat)]).setIfInBounds 0 ((gv (#v[gv sboxV ((gv (seg8 4 (wdS key m) ((m - 1) * 4)) 1).toNat), gv sboxV ((gv (seg8 4 (wdS key m) ((m - 1) * 4)) 2).toNat), gv sboxV ((gv (seg8 4 (wdS key m) ((m - 1) * 4)) 3).toNat), gv sboxV ((gv (seg8 4 (wdS key m) ((m - 1) * 4)) 0).toNat)]) 0) ^^^ (pwR 2 ((m / 4) - 1))))) 107), (b3, .cells (BV sboxV) 46), (b2, .cells (BV (Vector.replicate 176 0)) 117), (b1, .cells (BV key) 22)] w) ?_
          have hS := hS.drew
          refine dq 0 rfl (by kernel_rfl) (by kernel_rfl) (by kernel_rfl) rfl rfl (fun w hS => mv rfl rfl rfl ⟨rfl, rfl⟩) (hS.sublist (.cons_cons _ (.cons _ (.cons_cons _ (.cons_cons _ (.cons_cons _ (List.nil_sublist _))))))) ?_
          refine dq 1 rfl (by kernel_rfl) (by kernel_rfl) (by kernel_rfl) rfl rfl (fun w hS => mv rfl rfl rfl ⟨rfl, rfl⟩) (hS.sublist (.cons_cons _ (.cons _ (.cons_cons _ (.cons_cons _ (.cons_cons _ (List.nil_sublist _))))))) ?_
          refine dq 2 rfl (by kernel_rfl) (by kernel_rfl) (by kernel_rfl) rfl rfl (fun w hS => mv rfl rfl rfl ⟨rfl, rfl⟩) (hS.sublist (.cons_cons _ (.cons _ (.cons_cons _ (.cons_cons _ (.cons_cons _ (List.nil_sublist _))))))) ?_
          refine dq 3 rfl (by kernel_rfl) (by kernel_rfl) (by kernel_rfl) rfl rfl (fun w hS => subi (by omega) (by omega) rfl rfl rfl rfl ⟨rfl, rfl⟩) (hS.sublist (.cons_cons _ (.cons _ (.cons_cons _ (.cons_cons _ (.cons_cons _ (List.nil_sublist _))))))) ?_
          refine dq 4 rfl (by kernel_rfl) (by kernel_rfl) (by kernel_rfl) rfl rfl (fun w hS => mv rfl rfl rfl ⟨rfl, rfl⟩) (hS.sublist (.cons_cons _ (.cons _ (.cons_cons _ (.cons_cons _ (.cons_cons _ (List.nil_sublist _))))))) ?_
          refine dq 5 rfl (by kernel_rfl) (by kernel_rfl) (by kernel_rfl) rfl rfl (fun w hS => ian (m - 4) ((m - 4) * 4) Tryz.underlying117 sz107 rfl rfl rfl rfl (by omega) (by omega) (by omega) ⟨rfl, rfl⟩) (hS.sublist (.cons_cons _ (.cons _ (.cons_cons _ (.cons_cons _ (.cons_cons _ (List.nil_sublist _))))))) ?_
          refine dq 6 rfl (by kernel_rfl) (by kernel_rfl) (by kernel_rfl) rfl rfl (fun w hS => ian (k) ((m - 4) * 4 + k) Tryz.underlying107 sz5 rfl rfl rfl rfl (by omega) (by omega) (by omega) ⟨rfl, rfl⟩) (hS.sublist (.cons_cons _ (.cons _ (.cons_cons _ (.cons_cons _ (.cons_cons _ (List.nil_sublist _))))))) ?_
          refine dq 8 rfl (by kernel_rfl) (by kernel_rfl) (by kernel_rfl) rfl rfl (fun w hS => mv rfl rfl rfl ⟨rfl, rfl⟩) (hS.sublist (.cons_cons _ (.cons _ (.cons_cons _ (.cons_cons _ (.cons_cons _ (List.nil_sublist _))))))) ?_
          refine dq 9 rfl (by kernel_rfl) (by kernel_rfl) (by kernel_rfl) rfl rfl (fun w hS => ian (k) (k) Tryz.underlying107 sz5 rfl rfl rfl rfl (by omega) (by omega) (by omega) ⟨rfl, rfl⟩) (hS.sublist (.cons_cons _ (.cons _ (.cons_cons _ (.cons_cons _ (.cons_cons _ (List.nil_sublist _))))))) ?_
          refine dq 10 rfl (by kernel_rfl) (by kernel_rfl) (by kernel_rfl) rfl rfl (fun w hS => lo 0 sc5 hS rfl rfl rfl rfl (BV_get _ k (by omega)) ⟨rfl, rfl⟩) (hS.sublist (.cons_cons _ (.cons _ (.cons_cons _ (.cons_cons _ (.cons_cons _ (List.nil_sublist _))))))) ?_
          refine dq 12 rfl (by kernel_rfl) (by kernel_rfl) (by kernel_rfl) rfl rfl (fun w hS => ian (m) (m * 4) Tryz.underlying117 sz107 rfl rfl rfl rfl (by omega) (by omega) (by omega) ⟨rfl, rfl⟩) (hS.sublist (.cons_cons _ (.cons _ (.cons_cons _ (.cons_cons _ (.cons_cons _ (List.nil_sublist _))))))) ?_
          refine dl 7 rfl (by kernel_rfl) ?_
          refine lo 1 sc5 hS rfl rfl rfl rfl (BV_get _ ((m - 4) * 4 + k) (by omega)) ?_
          refine ⟨fun _ => (hS.sublist (.cons_cons _ (.cons _ (.cons_cons _ (.cons_cons _ (.cons_cons _ (List.nil_sublist _))))))), ?_⟩
          refine dq 11 rfl (by kernel_rfl) (by kernel_rfl) (by kernel_rfl) rfl rfl (fun w hS => xor8 rfl rfl rfl rfl ⟨rfl, rfl⟩) (hS.sublist (.cons_cons _ (.cons _ (.cons_cons _ (.cons_cons _ (.cons_cons _ (List.nil_sublist _))))))) ?_
          refine dq 13 rfl (by kernel_rfl) (by kernel_rfl) (by kernel_rfl) rfl rfl (fun w hS => ian (k) (m * 4 + k) Tryz.underlying107 sz5 rfl rfl rfl rfl (by omega) (by omega) (by omega) ⟨rfl, rfl⟩) (hS.sublist (.cons_cons _ (.cons _ (.cons_cons _ (.cons_cons _ (.cons_cons _ (List.nil_sublist _))))))) ?_
          refine dl 14 rfl (by kernel_rfl) ?_
          refine st 1 sz5 hS rfl rfl rfl rfl rfl rfl (by rw [BV_size]; omega) (BV_set _ _ ((gv (wdIn (wdS key m) ((#v[gv sboxV ((gv (seg8 4 (wdS key m) ((m - 1) * 4)) 1).toNat), gv sboxV ((gv (seg8 4 (wdS key m) ((m - 1) * 4)) 2).toNat), gv sboxV ((gv (seg8 4 (wdS key m) ((m - 1) * 4)) 3).toNat), gv sboxV ((gv (seg8 4 (wdS key m) ((m - 1) * 4)) 0).toNat)]).setIfInBounds 0 ((gv (#v[gv sboxV ((gv (seg8 4 (wdS key m) ((m - 1) * 4)) 1).toNat), gv sboxV ((gv (seg8 4 (wdS key m) ((m - 1) * 4)) 2).toNat), gv sboxV ((gv (seg8 4 (wdS key m) ((m - 1) * 4)) 3).toNat), gv sboxV ((gv (seg8 4 (wdS key m) ((m - 1) * 4)) 0).toNat)]) 0) ^^^ (pwR 2 ((m / 4) - 1)))) m k) ((m - 4) * 4 + k)) ^^^ (gv ((#v[gv sboxV ((gv (seg8 4 (wdS key m) ((m - 1) * 4)) 1).toNat), gv sboxV ((gv (seg8 4 (wdS key m) ((m - 1) * 4)) 2).toNat), gv sboxV ((gv (seg8 4 (wdS key m) ((m - 1) * 4)) 3).toNat), gv sboxV ((gv (seg8 4 (wdS key m) ((m - 1) * 4)) 0).toNat)]).setIfInBounds 0 ((gv (#v[gv sboxV ((gv (seg8 4 (wdS key m) ((m - 1) * 4)) 1).toNat), gv sboxV ((gv (seg8 4 (wdS key m) ((m - 1) * 4)) 2).toNat), gv sboxV ((gv (seg8 4 (wdS key m) ((m - 1) * 4)) 3).toNat), gv sboxV ((gv (seg8 4 (wdS key m) ((m - 1) * 4)) 0).toNat)]) 0) ^^^ (pwR 2 ((m / 4) - 1)))) k) : UInt8)) ?_
          intro w hS
          refine ⟨fun _ => (hS.sublist (.cons_cons _ (.cons _ (.cons_cons _ (.cons_cons _ (.cons_cons _ (List.nil_sublist _))))))), ?_⟩
          refine de (by kernel_rfl) ?_
          refine q_block_norm ?_
          refine wq_then ?_
          refine wc_region ?_
          refine mv rfl rfl rfl ?_
          refine addi (by omega) (by omega) rfl rfl rfl rfl ?_
          refine asg rfl rfl rfl ?_
          refine again_q (k + 1) ⟨rfl, rfl, rfl, rfl, rfl, rfl, lkI rfl (by first | omega | rfl), trivial⟩ ⟨by omega, hS⟩ (by omega)
        · skip
          try simp only [SB] at hc4
          have hk4 : k = 4 := by omega
          rw [hk4] at hS
          refine wc_exit ?_
          refine q_then_exit ?_
          refine q_then_exit ?_
          refine q_block_hit ?_
          refine q_block_norm ?_
          refine wq_then ?_
          refine wc_region ?_
          refine mv rfl rfl rfl ?_
          refine addi (by omega) (by omega) rfl rfl rfl rfl ?_
          refine asg rfl rfl rfl ?_
          refine again_q (m + 1) ⟨rfl, rfl, rfl, rfl, lkI rfl (by first | omega | rfl), trivial⟩ ⟨by omega, (by rw [wd_0 hi4 h0]; exact hS.tl)⟩ (by omega)
      · skip
        try simp only [SB] at hc3
        have h0 : ¬ m % 4 = 0 := by omega
        refine wc_skip ?_
        refine wq_then ?_
        refine rg ?_
        refine asg rfl rfl rfl ?_
        refine wq_then ?_
        refine wc_block ?_
        refine wc_loop (σ := Nat) (fun k => [(1, Ptr b1 0), (2, Ptr b2 0), (3, Ptr b3 0), (4, Ptr b4 0), (5, I ((m : Int))), (6, Ptr b6 0), (7, I ((k : Int)))])
          (fun k w => (k ≤ 4) ∧ St w0 [] [(b6, .cells (BV (seg8 4 (wdS key m) ((m - 1) * 4))) 107), (b4, .cells (BV (wdIn (wdS key m) (seg8 4 (wdS key m) ((m - 1) * 4)) m k)) 117), (b3, .cells (BV sboxV) 46), (b2, .cells (BV (Vector.replicate 176 0)) 117), (b1, .cells (BV key) 22)] w) (fun k => 4 - k) 0 ⟨rfl, rfl, rfl, rfl, rfl, rfl, rfl, trivial⟩ ⟨by omega, hS⟩ ?_
        rintro k w ⟨hk, hS⟩
        refine wc_seq ?_
        refine rg ?_
        refine mv rfl rfl rfl ?_
        refine lss rfl rfl rfl rfl ?_
        refine wq_then ?_
        refine wc_if rfl (fun hc5 => ?_) (fun hc5 => ?_)
        · skip
          try simp only [SB] at hc5
          refine wc_skip ?_
          refine wq_then ?_
          refine wc_seq ?_
          refine wc_block ?_
          refine wc_draw mo 15 (fun w => St w0 [] [(b6, .cells (BV (seg8 4 (wdS key m) ((m - 1) * 4))) 107), (b3, .cells (BV sboxV) 46), (b2, .cells (BV (Vector.replicate 176 0)) 117), (b1, .cells (BV key) 22)] w) ?_
          have hS := hS.drew
          refine dq 0 rfl (by kernel_rfl) (by kernel_rfl) (by kernel_rfl) rfl rfl (fun w hS => mv rfl rfl rfl ⟨rfl, rfl⟩) (hS.sublist (.cons_cons _ (.cons _ (.cons_cons _ (.cons_cons _ (.cons_cons _ (List.nil_sublist _))))))) ?_
          refine dq 1 rfl (by kernel_rfl) (by kernel_rfl) (by kernel_rfl) rfl rfl (fun w hS => mv rfl rfl rfl ⟨rfl, rfl⟩) (hS.sublist (.cons_cons _ (.cons _ (.cons_cons _ (.cons_cons _ (.cons_cons _ (List.nil_sublist _))))))) ?_
          refine dq 2 rfl (by kernel_rfl) (by kernel_rfl) (by kernel_rfl) rfl rfl (fun w hS => mv rfl rfl rfl ⟨rfl, rfl⟩) (hS.sublist (.cons_cons _ (.cons _ (.cons_cons _ (.cons_cons _ (.cons_cons _ (List.nil_sublist _))))))) ?_
          refine dq 3 rfl (by kernel_rfl) (by kernel_rfl) (by kernel_rfl) rfl rfl (fun w hS => subi (by omega) (by omega) rfl rfl rfl rfl ⟨rfl, rfl⟩) (hS.sublist (.cons_cons _ (.cons _ (.cons_cons _ (.cons_cons _ (.cons_cons _ (List.nil_sublist _))))))) ?_
          refine dq 4 rfl (by kernel_rfl) (by kernel_rfl) (by kernel_rfl) rfl rfl (fun w hS => mv rfl rfl rfl ⟨rfl, rfl⟩) (hS.sublist (.cons_cons _ (.cons _ (.cons_cons _ (.cons_cons _ (.cons_cons _ (List.nil_sublist _))))))) ?_
          refine dq 5 rfl (by kernel_rfl) (by kernel_rfl) (by kernel_rfl) rfl rfl (fun w hS => ian (m - 4) ((m - 4) * 4) Tryz.underlying117 sz107 rfl rfl rfl rfl (by omega) (by omega) (by omega) ⟨rfl, rfl⟩) (hS.sublist (.cons_cons _ (.cons _ (.cons_cons _ (.cons_cons _ (.cons_cons _ (List.nil_sublist _))))))) ?_
          refine dq 6 rfl (by kernel_rfl) (by kernel_rfl) (by kernel_rfl) rfl rfl (fun w hS => ian (k) ((m - 4) * 4 + k) Tryz.underlying107 sz5 rfl rfl rfl rfl (by omega) (by omega) (by omega) ⟨rfl, rfl⟩) (hS.sublist (.cons_cons _ (.cons _ (.cons_cons _ (.cons_cons _ (.cons_cons _ (List.nil_sublist _))))))) ?_
          refine dq 8 rfl (by kernel_rfl) (by kernel_rfl) (by kernel_rfl) rfl rfl (fun w hS => mv rfl rfl rfl ⟨rfl, rfl⟩) (hS.sublist (.cons_cons _ (.cons _ (.cons_cons _ (.cons_cons _ (.cons_cons _ (List.nil_sublist _))))))) ?_
          refine dq 9 rfl (by kernel_rfl) (by kernel_rfl) (by kernel_rfl) rfl rfl (fun w hS => ian (k) (k) Tryz.underlying107 sz5 rfl rfl rfl rfl (by omega) (by omega) (by omega) ⟨rfl, rfl⟩) (hS.sublist (.cons_cons _ (.cons _ (.cons_cons _ (.cons_cons _ (.cons_cons _ (List.nil_sublist _))))))) ?_
          refine dq 10 rfl (by kernel_rfl) (by kernel_rfl) (by kernel_rfl) rfl rfl (fun w hS => lo 0 sc5 hS rfl rfl rfl rfl (BV_get _ k (by omega)) ⟨rfl, rfl⟩) (hS.sublist (.cons_cons _ (.cons _ (.cons_cons _ (.cons_cons _ (.cons_cons _ (List.nil_sublist _))))))) ?_
          refine dq 12 rfl (by kernel_rfl) (by kernel_rfl) (by kernel_rfl) rfl rfl (fun w hS => ian (m) (m * 4) Tryz.underlying117 sz107 rfl rfl rfl rfl (by omega) (by omega) (by omega) ⟨rfl, rfl⟩) (hS.sublist (.cons_cons _ (.cons _ (.cons_cons _ (.cons_cons _ (.cons_cons _ (List.nil_sublist _))))))) ?_
          refine dl 7 rfl (by kernel_rfl) ?_
          refine lo 1 sc5 hS rfl rfl rfl rfl (BV_get _ ((m - 4) * 4 + k) (by omega)) ?_
          refine ⟨fun _ => (hS.sublist (.cons_cons _ (.cons _ (.cons_cons _ (.cons_cons _ (.cons_cons _ (List.nil_sublist _))))))), ?_⟩
          refine dq 11 rfl (by kernel_rfl) (by kernel_rfl) (by kernel_rfl) rfl rfl (fun w hS => xor8 rfl rfl rfl rfl ⟨rfl, rfl⟩) (hS.sublist (.cons_cons _ (.cons _ (.cons_cons _ (.cons_cons _ (.cons_cons _ (List.nil_sublist _))))))) ?_
          refine dq 13 rfl (by kernel_rfl) (by kernel_rfl) (by kernel_rfl) rfl rfl (fun w hS => ian (k) (m * 4 + k) Tryz.underlying107 sz5 rfl rfl rfl rfl (by omega) (by omega) (by omega) ⟨rfl, rfl⟩) (hS.sublist (.cons_cons _ (.cons _ (.cons_cons _ (.cons_cons _ (.cons_cons _ (List.nil_sublist _))))))) ?_
          refine dl 14 rfl (by kernel_rfl) ?_
          refine st 1 sz5 hS rfl rfl rfl rfl rfl rfl (by rw [BV_size]; omega) (BV_set _ _ ((gv (wdIn (wdS key m) (seg8 4 (wdS key m) ((m - 1) * 4)) m k) ((m - 4) * 4 + k)) ^^^ (gv (seg8 4 (wdS key m) ((m - 1) * 4)) k) : UInt8)) ?_
          intro w hS
          refine ⟨fun _ => (hS.sublist (.cons_cons _ (.cons _ (.cons_cons _ (.cons_cons _ (.cons_cons _ (List.nil_sublist _))))))), ?_⟩
          refine de (by kernel_rfl) ?_
          refine q_block_norm ?_
          refine wq_then ?_
          refine wc_region ?_
          refine mv rfl rfl rfl ?_
          refine addi (by omega) (by omega) rfl rfl rfl rfl ?_
          refine asg rfl rfl rfl ?_
          refine again_q (k + 1) ⟨rfl, rfl, rfl, rfl, rfl, rfl, lkI rfl (by first | omega | rfl), trivial⟩ ⟨by omega, hS⟩ (by omega)
        · skip
          try simp only [SB] at hc5
          have hk4 : k = 4 := by omega
          rw [hk4] at hS
          refine wc_exit ?_
          refine q_then_exit ?_
          refine q_then_exit ?_
          refine q_block_hit ?_
          refine q_block_norm ?_
          refine wq_then ?_
          refine wc_region ?_
          refine mv rfl rfl rfl ?_
          refine addi (by omega) (by omega) rfl rfl rfl rfl ?_
          refine asg rfl rfl rfl ?_
          refine again_q (m + 1) ⟨rfl, rfl, rfl, rfl, lkI rfl (by first | omega | rfl), trivial⟩ ⟨by omega, (by rw [wd_1 hi4 h0]; exact hS.tl)⟩ (by omega)
  · skip
    try simp only [SB] at hc1
    refine wc_exit ?_
    refine q_then_exit ?_
    refine q_then_exit ?_
    refine q_block_hit ?_
    refine wq_then ?_
    refine rg ?_
    refine la 0 ag117 hS rfl rfl rfl rfl (BV_size _) ?_
    refine sa 2 ag117 hS rfl rfl rfl (BV_one _) rfl (BV_size _) (BV_size _) ?_
    intro w hS
    refine wq_then ?_
    refine wc_ret ?_
    refine fin1 (v := .agg (BV (wdS key m))) rfl ⟨_, rfl, lv_a ag117 (hS.get 2 rfl) (BV_size _)⟩ ?_
    refine ⟨?_, hS.drop⟩
    have hk5 : m = 44 := by omega
    rw [hk5]
end Go.Proofs.XZ

/- walks -/
namespace Go.Proofs.XZ
open Go Go.X Go.Proofs
set_option maxRecDepth 100000 in
theorem sp_mooringref05_Expand (key : V8 16) (w0 : World) : Calls Tryz.prog 40 #[.agg (BV key)] w0 (Ret w0 (.agg (BV (expand key)))) := by
  refine enter (args := [.agg (BV key)]) Tryz.func40 rfl rfl ?_
  refine startw fun w hS => ?_
  refine rg ?_
  refine bxa hS rfl rfl rfl ?_
  intro b1 w hb1 hS
  refine ala zr45 hS rfl rfl ?_
  intro b2 w hb2 hS
  refine wq_then ?_
  refine rg ?_
  refine la 1 ag22 hS rfl rfl rfl rfl (BV_size _) ?_
  refine cv cf62 hS rfl rfl rfl rfl rfl (sp_mooringref05_Words (key) _) ?_
  intro w hS
  refine ala zr117 hS rfl rfl ?_
  intro b3 w hb3 hS
  refine sa 0 ag117 hS rfl rfl rfl (BV_one _) rfl (BV_size _) (BV_size _) ?_
  intro w hS
  refine wq_then ?_
  refine rg ?_
  refine ala zr45 hS rfl rfl ?_
  intro b4 w hb4 hS
  refine wq_then ?_
  refine wc_seq ?_
  refine rg ?_
  refine asg rfl rfl rfl ?_
  refine wq_then ?_
  refine wc_block ?_
  refine wc_loop (σ := Nat) (fun k => [(2, Ptr b2 0), (3, Ptr b3 0), (4, Ptr b4 0), (5, I ((k : Int)))])
    (fun k w => (k ≤ 176) ∧ St w0 [] [(b4, .cells (BV (fill8 176 (gv (wdS key 44)) (Vector.replicate 176 0) k)) 45), (b3, .cells (BV (wdS key 44)) 117), (b2, .cells (BV (Vector.replicate 176 0)) 45), (b1, .cells (BV key) 22)] w) (fun k => 176 - k) 0 ⟨rfl, rfl, rfl, rfl, trivial⟩ ⟨by omega, (by simp only [Nat.zero_mul, Nat.add_zero, fill8_0, fill32_0]; exact hS)⟩ ?_
  rintro k w ⟨hk, hS⟩
  refine wc_seq ?_
  refine rg ?_
  refine mv rfl rfl rfl ?_
  refine lss rfl rfl rfl rfl ?_
  refine wq_then ?_
  refine wc_if rfl (fun hc1 => ?_) (fun hc1 => ?_)
  · skip
    try simp only [SB] at hc1
    refine wc_skip ?_
    refine wq_then ?_
    refine wc_seq ?_
    refine wc_block ?_
    refine wc_draw mo 14 (fun w => St w0 [] [(b3, .cells (BV (wdS key 44)) 117), (b2, .cells (BV (Vector.replicate 176 0)) 45), (b1, .cells (BV key) 22)] w) ?_
    have hS := hS.drew
    refine dq 0 rfl (by kernel_rfl) (by kernel_rfl) (by kernel_rfl) rfl rfl (fun w hS => mv rfl rfl rfl ⟨rfl, rfl⟩) (hS.sublist (.cons _ (.cons_cons _ (.cons_cons _ (.cons_cons _ (List.nil_sublist _)))))) ?_
    refine dq 1 rfl (by kernel_rfl) (by kernel_rfl) (by kernel_rfl) rfl rfl (fun w hS => quoi (by omega) (by omega) (by omega) rfl rfl rfl rfl ⟨rfl, rfl⟩) (hS.sublist (.cons _ (.cons_cons _ (.cons_cons _ (.cons_cons _ (List.nil_sublist _)))))) ?_
    refine dq 2 rfl (by kernel_rfl) (by kernel_rfl) (by kernel_rfl) rfl rfl (fun w hS => mv rfl rfl rfl ⟨rfl, rfl⟩) (hS.sublist (.cons _ (.cons_cons _ (.cons_cons _ (.cons_cons _ (List.nil_sublist _)))))) ?_
    refine dq 3 rfl (by kernel_rfl) (by kernel_rfl) (by kernel_rfl) rfl rfl (fun w hS => remi (by omega) (by omega) rfl rfl rfl rfl ⟨rfl, rfl⟩) (hS.sublist (.cons _ (.cons_cons _ (.cons_cons _ (.cons_cons _ (List.nil_sublist _)))))) ?_
    refine dq 4 rfl (by kernel_rfl) (by kernel_rfl) (by kernel_rfl) rfl rfl (fun w hS => mv rfl rfl rfl ⟨rfl, rfl⟩) (hS.sublist (.cons _ (.cons_cons _ (.cons_cons _ (.cons_cons _ (List.nil_sublist _)))))) ?_
    refine dq 5 rfl (by kernel_rfl) (by kernel_rfl) (by kernel_rfl) rfl rfl (fun w hS => quoi (by omega) (by omega) (by omega) rfl rfl rfl rfl ⟨rfl, rfl⟩) (hS.sublist (.cons _ (.cons_cons _ (.cons_cons _ (.cons_cons _ (List.nil_sublist _)))))) ?_
    refine dq 6 rfl (by kernel_rfl) (by kernel_rfl) (by kernel_rfl) rfl rfl (fun w hS => mv rfl rfl rfl ⟨rfl, rfl⟩) (hS.sublist (.cons _ (.cons_cons _ (.cons_cons _ (.cons_cons _ (List.nil_sublist _)))))) ?_
    refine dq 7 rfl (by kernel_rfl) (by kernel_rfl) (by kernel_rfl) rfl rfl (fun w hS => remi (by omega) (by omega) rfl rfl rfl rfl ⟨rfl, rfl⟩) (hS.sublist (.cons _ (.cons_cons _ (.cons_cons _ (.cons_cons _ (List.nil_sublist _)))))) ?_
    refine dq 8 rfl (by kernel_rfl) (by kernel_rfl) (by kernel_rfl) rfl rfl (fun w hS => ian (k / 4) ((k / 4) * 4) Tryz.underlying117 sz107 rfl rfl rfl rfl (by omega) (by omega) (by omega) ⟨rfl, rfl⟩) (hS.sublist (.cons _ (.cons_cons _ (.cons_cons _ (.cons_cons _ (List.nil_sublist _)))))) ?_
    refine dq 9 rfl (by kernel_rfl) (by kernel_rfl) (by kernel_rfl) rfl rfl (fun w hS => ian (k % 4) ((k / 4) * 4 + (k % 4)) Tryz.underlying107 sz5 rfl rfl rfl rfl (by omega) (by omega) (by omega) ⟨rfl, rfl⟩) (hS.sublist (.cons _ (.cons_cons _ (.cons_cons _ (.cons_cons _ (List.nil_sublist _)))))) ?_
    refine dq 10 rfl (by kernel_rfl) (by kernel_rfl) (by kernel_rfl) rfl rfl (fun w hS => lo 0 sc5 hS rfl rfl rfl rfl (BV_get _ ((k / 4) * 4 + (k % 4)) (by omega)) ⟨rfl, rfl⟩) (hS.sublist (.cons _ (.cons_cons _ (.cons_cons _ (.cons_cons _ (List.nil_sublist _)))))) ?_
    refine dq 11 rfl (by kernel_rfl) (by kernel_rfl) (by kernel_rfl) rfl rfl (fun w hS => ian (k / 16) ((k / 16) * 16) Tryz.underlying45 sz22 rfl rfl rfl rfl (by omega) (by omega) (by omega) ⟨rfl, rfl⟩) (hS.sublist (.cons _ (.cons_cons _ (.cons_cons _ (.cons_cons _ (List.nil_sublist _)))))) ?_
    refine dq 12 rfl (by kernel_rfl) (by kernel_rfl) (by kernel_rfl) rfl rfl (fun w hS => ian (k % 16) ((k / 16) * 16 + (k % 16)) Tryz.underlying22 sz5 rfl rfl rfl rfl (by omega) (by omega) (by omega) ⟨rfl, rfl⟩) (hS.sublist (.cons _ (.cons_cons _ (.cons_cons _ (.cons_cons _ (List.nil_sublist _)))))) ?_
    refine dl 13 rfl (by kernel_rfl) ?_
    refine st (cs' := BV (fill8 176 (gv (wdS key 44)) (Vector.replicate 176 0) (k + 1))) 0 sz5 hS rfl rfl rfl rfl rfl rfl (by rw [BV_size]; omega) (by rw [BV_set, show k / 16 * 16 + k % 16 = k by omega, show k / 4 * 4 + k % 4 = k by omega]; exact congrArg BV (fill8_succ (gv (wdS key 44)) _ k)) ?_
    intro w hS
    refine ⟨fun _ => (hS.sublist (.cons _ (.cons_cons _ (.cons_cons _ (.cons_cons _ (List.nil_sublist _)))))), ?_⟩
    refine de (by kernel_rfl) ?_
    refine q_block_norm ?_
    refine wq_then ?_
    refine wc_region ?_
    refine mv rfl rfl rfl ?_
    refine addi (by omega) (by omega) rfl rfl rfl rfl ?_
    refine asg rfl rfl rfl ?_
    refine again_q (k + 1) ⟨rfl, rfl, rfl, lkI rfl (by first | omega | rfl), trivial⟩ ⟨by omega, hS⟩ (by omega)
  · skip
    try simp only [SB] at hc1
    refine wc_exit ?_
    refine q_then_exit ?_
    refine q_then_exit ?_
    refine q_block_hit ?_
    refine wq_then ?_
    refine rg ?_
    refine la 0 ag45 hS rfl rfl rfl rfl (BV_size _) ?_
    refine sa 2 ag45 hS rfl rfl rfl (BV_one _) rfl (BV_size _) (BV_size _) ?_
    intro w hS
    refine wq_then ?_
    refine wc_ret ?_
    refine fin1 (v := .agg (BV (fill8 176 (gv (wdS key 44)) (Vector.replicate 176 0) k))) rfl ⟨_, rfl, lv_a ag45 (hS.get 2 rfl) (BV_size _)⟩ ?_
    refine ⟨?_, hS.drop⟩
    have hk5 : k = 176 := by omega
    rw [hk5, fill8_n, ofFn_gv, wd_expand]
end Go.Proofs.XZ

/- walks -/
namespace Go.Proofs.XZ
open Go Go.X Go.Proofs
set_option maxRecDepth 100000 in
theorem sp_mooringref06_Prepare (key : V8 16) (w0 : World) : Calls Tryz.prog 15 #[.agg (BV key)] w0 (Ret w0 (.agg (BV (expand key) ++ BV sboxV))) := by
  refine enter (args := [.agg (BV key)]) Tryz.func15 rfl rfl ?_
  refine startw fun w hS => ?_
  refine rg ?_
  refine bxa hS rfl rfl rfl ?_
  intro b1 w hb1 hS
  refine ala zr48 hS rfl rfl ?_
  intro b2 w hb2 hS
  refine wq_then ?_
  refine rg ?_
  refine la 1 ag22 hS rfl rfl rfl rfl (BV_size _) ?_
  refine cv cf40 hS rfl rfl rfl rfl rfl (sp_mooringref05_Expand (key) _) ?_
  intro w hS
  refine cv cf41 hS rfl rfl rfl rfl rfl (sp_mooringref04_Table _) ?_
  intro w hS
  refine bd (cs := BV (expand key) ++ BV sboxV) rfl rfl rfl ((bu48 _).trans (fill_w (off := 0) (size := 176) rfl (BV_size _) (le_sz (a := 432) (cat_size (a := 176) (b := 256) (BV_size _) (BV_size _)) (by omega)) (cat_pl (a := 176) (BV_size _) (ple (BV_size _) (by omega)) (put_all (BV_size _) (BV_size _))) <| fill_w (off := 176) (size := 256) rfl (BV_size _) (le_sz (a := 432) (cat_size (a := 176) (b := 256) (BV_size _) (BV_size _)) (by omega)) (cat_pr (a := 176) (o' := 0) (BV_size _) (by omega) (ple2 (BV_size _) (BV_size _) (by omega)) (put_all (BV_size _) (BV_size _))) <| rfl)) ?_
  refine sa 0 ag48 hS rfl rfl rfl (cat_one (BV_one _) (BV_one _)) rfl (cat_size (a := 176) (b := 256) (BV_size _) (BV_size _)) (cat_size (a := 176) (b := 256) (BV_size _) (BV_size _)) ?_
  intro w hS
  refine wq_then ?_
  refine wc_ret ?_
  refine fin1 (v := .agg (BV (expand key) ++ BV sboxV)) rfl ⟨_, rfl, lv_a ag48 (hS.get 0 rfl) (cat_size (a := 176) (b := 256) (BV_size _) (BV_size _))⟩ ?_
  exact ⟨rfl, hS.drop⟩
end Go.Proofs.XZ

/- walks -/
namespace Go.Proofs.XZ
open Go Go.X Go.Proofs
set_option maxRecDepth 100000 in
theorem sp_mooringref17_Check (d : Int) (s : UInt64) (t e : UInt16) (a : Option Addr) (n cap : Nat) (w0 : World) : Calls Tryz.prog 10 #[.agg #[I d, U64 s, U16 t, U16 e, .slice a n cap]] w0 (Ret w0 (I ((chk d s n : Nat) : Int))) := by
  refine enter (args := [.agg #[I d, U64 s, U16 t, U16 e, .slice a n cap]]) Tryz.func10 rfl rfl ?_
  refine startw fun w hS => ?_
  refine rg ?_
  refine bxa hS rfl rfl rfl ?_
  intro b1 w hb1 hS
  refine asg rfl rfl rfl ?_
  refine wq_then ?_
  refine wc_seq ?_
  refine rg ?_
  refine fan (0) (0) Tryz.underlying27 rfl sz3 (by decide) rfl rfl rfl rfl (by omega) ?_
  refine lo 0 sc3 hS rfl rfl rfl rfl rfl ?_
  refine nei rfl rfl rfl rfl ?_
  refine mv rfl rfl rfl ?_
  refine spl 6 rfl (fun hb1 => ?_) (fun hb1 => ?_)
  · skip
    try simp only [SB] at hb1
    refine fan (0) (0) Tryz.underlying27 rfl sz3 (by decide) rfl rfl rfl rfl (by omega) ?_
    refine lo 0 sc3 hS rfl rfl rfl rfl rfl ?_
    refine nei rfl rfl rfl rfl ?_
    refine pk_t rfl rfl rfl rfl ?_
    refine wq_then ?_
    refine wc_if rfl (fun hc1 => ?_) (fun hc1 => ?_)
    · skip
      try simp only [SB] at hc1
      refine rg ?_
      refine asg rfl rfl rfl ?_
      refine wq_then ?_
      refine wc_ret ?_
      refine q_then_ret ?_
      refine fin1 (v := I (8)) rfl rfl ?_
      refine ⟨?_, hS.drop⟩
      have hk : chk d s n = 8 := by simp only [chk]; (repeat' split) <;> omega
      rw [hk]; rfl
    · skip
      try simp only [SB] at hc1
      refine wc_skip ?_
      refine wq_then ?_
      refine wc_seq ?_
      refine rg ?_
      refine fan (1) (1) Tryz.underlying27 rfl sz23 (by decide) rfl rfl rfl rfl (by omega) ?_
      refine lo 0 sc23 hS rfl rfl rfl rfl rfl ?_
      refine geq rfl rfl rfl rfl ?_
      refine wq_then ?_
      refine wc_if rfl (fun hc2 => ?_) (fun hc2 => ?_)
      · skip
        try simp only [SB] at hc2
        refine rg ?_
        refine asg rfl rfl rfl ?_
        refine wq_then ?_
        refine wc_ret ?_
        refine q_then_ret ?_
        refine fin1 (v := I (5)) rfl rfl ?_
        refine ⟨?_, hS.drop⟩
        have hk : chk d s n = 5 := by simp only [chk]; (repeat' split) <;> omega
        rw [hk]; rfl
      · skip
        try simp only [SB] at hc2
        refine wc_skip ?_
        refine wq_then ?_
        refine wc_seq ?_
        refine rg ?_
        refine fan (4) (4) Tryz.underlying27 rfl sz25 (by decide) rfl rfl rfl rfl (by omega) ?_
        refine lo 0 sc25 hS rfl rfl rfl rfl rfl ?_
        refine lens Tryz.underlying25 rfl rfl rfl ?_
        refine gtr rfl rfl rfl rfl ?_
        refine wq_then ?_
        refine wc_if rfl (fun hc3 => ?_) (fun hc3 => ?_)
        · skip
          try simp only [SB] at hc3
          refine rg ?_
          refine asg rfl rfl rfl ?_
          refine wq_then ?_
          refine wc_ret ?_
          refine q_then_ret ?_
          refine fin1 (v := I (2)) rfl rfl ?_
          refine ⟨?_, hS.drop⟩
          have hk : chk d s n = 2 := by simp only [chk]; (repeat' split) <;> omega
          rw [hk]; rfl
        · skip
          try simp only [SB] at hc3
          refine wc_skip ?_
          refine wq_then ?_
          refine rg ?_
          refine asg rfl rfl rfl ?_
          refine wq_then ?_
          refine wc_ret ?_
          refine fin1 (v := I (0)) rfl rfl ?_
          refine ⟨?_, hS.drop⟩
          have hk : chk d s n = 0 := by simp only [chk]; (repeat' split) <;> omega
          rw [hk]; rfl
  · skip
    try simp only [SB] at hb1
    refine no rfl rfl ?_
    refine no rfl rfl ?_
    refine no rfl rfl ?_
    refine pk_f rfl rfl rfl rfl ?_
    refine wq_then ?_
    refine wc_if_f rfl ?_
    refine wc_skip ?_
    refine wq_then ?_
    refine wc_seq ?_
    refine rg ?_
    refine fan (1) (1) Tryz.underlying27 rfl sz23 (by decide) rfl rfl rfl rfl (by omega) ?_
    refine lo 0 sc23 hS rfl rfl rfl rfl rfl ?_
    refine geq rfl rfl rfl rfl ?_
    refine wq_then ?_
    refine wc_if rfl (fun hc4 => ?_) (fun hc4 => ?_)
    · skip
      try simp only [SB] at hc4
      refine rg ?_
      refine asg rfl rfl rfl ?_
      refine wq_then ?_
      refine wc_ret ?_
      refine q_then_ret ?_
      refine fin1 (v := I (5)) rfl rfl ?_
      refine ⟨?_, hS.drop⟩
      have hk : chk d s n = 5 := by simp only [chk]; (repeat' split) <;> omega
      rw [hk]; rfl
    · skip
      try simp only [SB] at hc4
      refine wc_skip ?_
      refine wq_then ?_
      refine wc_seq ?_
      refine rg ?_
      refine fan (4) (4) Tryz.underlying27 rfl sz25 (by decide) rfl rfl rfl rfl (by omega) ?_
      refine lo 0 sc25 hS rfl rfl rfl rfl rfl ?_
      refine lens Tryz.underlying25 rfl rfl rfl ?_
      refine gtr rfl rfl rfl rfl ?_
      refine wq_then ?_
      refine wc_if rfl (fun hc5 => ?_) (fun hc5 => ?_)
      · skip
        try simp only [SB] at hc5
        refine rg ?_
        refine asg rfl rfl rfl ?_
        refine wq_then ?_
        refine wc_ret ?_
        refine q_then_ret ?_
        refine fin1 (v := I (2)) rfl rfl ?_
        refine ⟨?_, hS.drop⟩
        have hk : chk d s n = 2 := by simp only [chk]; (repeat' split) <;> omega
        rw [hk]; rfl
      · skip
        try simp only [SB] at hc5
        refine wc_skip ?_
        refine wq_then ?_
        refine rg ?_
        refine asg rfl rfl rfl ?_
        refine wq_then ?_
        refine wc_ret ?_
        refine fin1 (v := I (0)) rfl rfl ?_
        refine ⟨?_, hS.drop⟩
        have hk : chk d s n = 0 := by simp only [chk]; (repeat' split) <;> omega
        rw [hk]; rfl
end Go.Proofs.XZ

/- walks -/
namespace Go.Proofs.XZ
open Go Go.X Go.Proofs
set_option maxRecDepth 100000 in
theorem sp_mooringlaw17_PacketMatchesReference (key : V8 16) (d : Int) (s : UInt64) (t e : UInt16) (a : Option Addr) (n cap : Nat) (bs : List UInt8) (w0 : World) (hn : bs.length = n) (he : Cel w0 a (c8 bs)) (hcap : n ≤ cap) (hd : -9223372036854775808 ≤ d ∧ d < 9223372036854775808) (hG : Gl 0 w0) : Calls Tryz.prog 3 #[.agg (BV key), .agg #[I d, U64 s, U16 t, U16 e, .slice a n cap]] w0 (Ret w0 (.bool true)) := by
  refine enter (args := [.agg (BV key), .agg #[I d, U64 s, U16 t, U16 e, .slice a n cap]]) Tryz.func3 rfl rfl ?_
  refine startw fun w hS => ?_
  refine rg ?_
  refine bxa hS rfl rfl rfl ?_
  intro b2 w hb2 hS
  refine bxa hS rfl rfl rfl ?_
  intro b3 w hb3 hS
  refine asg rfl rfl rfl ?_
  refine wq_then ?_
  refine wc_seq ?_
  refine rg ?_
  refine cv cf5 hS rfl rfl rfl rfl rfl (sp_mooringlaw17_awake _ (hG.st hS)) ?_
  intro w hS
  refine notb rfl rfl rfl ?_
  refine mv rfl rfl rfl ?_
  refine fan (4) (4) Tryz.underlying27 rfl sz25 (by decide) rfl rfl rfl rfl (by omega) ?_
  refine lo 0 sc25 hS rfl rfl rfl rfl rfl ?_
  refine cv cf6 hS rfl rfl rfl rfl rfl (sp_mooringlaw17_few (a) (n) (cap) _) ?_
  intro w hS
  refine notb rfl rfl rfl ?_
  refine pk_f rfl rfl rfl rfl ?_
  refine wq_then ?_
  refine wc_if rfl (fun hc1 => ?_) (fun hc1 => ?_)
  · skip
    try simp only [SB] at hc1
    refine rg ?_
    refine cv cf5 hS rfl rfl rfl rfl rfl (sp_mooringlaw17_awake _ (hG.st hS)) ?_
    intro w hS
    refine asg rfl rfl rfl ?_
    refine wq_then ?_
    refine wc_ret ?_
    refine q_then_ret ?_
    refine fin1 (v := .bool (true)) rfl rfl ?_
    exact ⟨rfl, hS.drop⟩
  · skip
    try simp only [SB] at hc1
    refine wc_skip ?_
    refine wq_then ?_
    refine rg ?_
    refine la 1 ag22 hS rfl rfl rfl rfl (BV_size _) ?_
    refine cs cf8 hS rfl rfl rfl rfl rfl (sp_fast_New (key) _) ?_
    rintro _ _ w ⟨c21, rfl, rfl⟩ hS
    refine cs cf7 hS rfl rfl rfl rfl rfl (sp_table_New (c21) (_) (key) _ (hS.get 0 rfl)) ?_
    rintro _ _ w ⟨t22, rfl, rfl⟩ hS
    refine asg rfl rfl rfl ?_
    refine wq_then ?_
    refine rg ?_
    refine mv rfl rfl rfl ?_
    refine la 2 ag27 hS rfl rfl rfl rfl rfl ?_
    refine cs cf9 hS rfl rfl rfl rfl rfl (sp_packet_Encode (t22) (c21) (key) (d) (s) (t) (e) (a) (n) (cap) (bs) _ (⟨⟨_, hS.get 0 rfl⟩, _, hS.get 1 rfl⟩) (by first | rfl | omega | (simp; omega) | (simp; done)) (by omega) (he.st hS) (by omega) (hG.st hS)) ?_
    rintro _ X26 w ⟨a26, n26, c26, rfl, hO26⟩ hS
    have hS := St.tailin (X := X26) hS [(t22, .cells (tableC c21 key) 61), (c21, .cells (cipherC key) 70), (b3, .cells (#[I (d), U64 (s), U16 (t), U16 (e), .slice a n cap]) 27), (b2, .cells (BV key) 22)] [] rfl
    refine mv rfl rfl rfl ?_
    refine ext rfl rfl rfl rfl ?_
    refine ext rfl rfl rfl rfl ?_
    refine asg rfl rfl rfl ?_
    refine asg rfl rfl rfl ?_
    refine wq_then ?_
    refine rg ?_
    refine la 2 ag27 hS rfl rfl rfl rfl rfl ?_
    refine cv cf10 hS rfl rfl rfl rfl rfl (sp_mooringref17_Check (d) (s) (t) (e) (a) (n) (cap) _) ?_
    intro w hS
    refine asg rfl rfl rfl ?_
    refine wq_then ?_
    refine wc_seq ?_
    refine rg ?_
    refine la 2 ag27 hS rfl rfl rfl rfl rfl ?_
    refine cv cf11 hS rfl rfl rfl rfl rfl (sp_packet_Right (d) (s) (t) (e) (a) (n) (cap) _) ?_
    intro w hS
    refine mv rfl rfl rfl ?_
    refine eqi rfl rfl rfl rfl ?_
    refine neb Tryz.underlying4 rfl rfl rfl rfl ?_
    refine wq_then ?_
    refine wc_if rfl (fun hc2 => ?_) (fun hc2 => ?_)
    · skip
      try simp only [SB] at hc2
      exfalso; revert hc2; by_cases h : chk d s n = 0 <;> simp [h]
    · skip
      try simp only [SB] at hc2
      refine wc_skip ?_
      refine wq_then ?_
      refine wc_seq ?_
      refine rg ?_
      refine mv rfl rfl rfl ?_
      refine nei rfl rfl rfl rfl ?_
      refine wq_then ?_
      refine wc_if rfl (fun hc3 => ?_) (fun hc3 => ?_)
      · skip
        try simp only [SB] at hc3
        have hE : chk d s n ≠ 0 := by omega
        have hl26 := hO26.len8
        have hl0 := encP_bad (key := key) (t := t) (e := e) hn hE
        refine rg ?_
        refine mv rfl rfl rfl ?_
        refine lens Tryz.underlying25 rfl rfl rfl ?_
        refine eqi rfl rfl rfl rfl ?_
        refine mv rfl rfl rfl ?_
        refine spl 41 rfl (fun hb1 => ?_) (fun hb1 => ?_)
        · skip
          try simp only [SB] at hb1
          refine mv rfl rfl rfl ?_
          refine mv rfl rfl rfl ?_
          refine mki cc40 rfl rfl rfl ?_
          refine eqEE (c := (chk d s n)) Tryz.underlying35 ec40 rfl rfl rfl rfl ?_
          refine pk_t rfl rfl rfl rfl ?_
          refine asg rfl rfl rfl ?_
          refine wq_then ?_
          refine wc_ret ?_
          refine q_then_ret ?_
          refine fin1 (v := .bool (decide ((((chk d s n) : Nat) : Int) = ((chk d s n : Nat) : Int) ∧ (chk d s n) ≠ 0))) rfl rfl ?_
          refine ⟨?_, hS.drop⟩
          simp [hE]
        · skip
          try simp only [SB] at hb1
          exfalso; omega
      · skip
        try simp only [SB] at hc3
        have hE : chk d s n = 0 := by omega
        obtain ⟨hL, hD, hQ⟩ := enc_all (key := key) (t := t) (e := e) hn hE
        have hl26 := hO26.len8
        have hle26 := hO26.le
        refine wc_skip ?_
        refine wq_then ?_
        refine rg ?_
        refine mv rfl rfl rfl ?_
        refine mv rfl rfl rfl ?_
        refine cs cf12 hS rfl rfl rfl rfl rfl (sp_packet_Decode (t22) (c21) (key) (a26) (n26) (c26) ((encP key d s t e bs)) _ (⟨⟨_, hS.get 0 rfl⟩, _, hS.get 1 rfl⟩) hO26.len8 (by omega) (hO26.cel hS (fun p hp => by simp [hp])) (by omega) (hG.st hS)) ?_
        rintro _ X50 w ⟨a50, n50, c50, rfl, hl50, hm50, hc50, hR50⟩ hS
        have hS := St.tailin (X := X50) hS [(t22, .cells (tableC c21 key) 61), (c21, .cells (cipherC key) 70), (b3, .cells (#[I (d), U64 (s), U16 (t), U16 (e), .slice a n cap]) 27), (b2, .cells (BV key) 22)] (X26 ++ []) rfl
        refine mv rfl rfl rfl ?_
        refine ext rfl rfl rfl rfl ?_
        refine ext rfl rfl rfl rfl ?_
        refine ala zr27 hS rfl rfl ?_
        intro b9 w hb9 hS
        refine sa 0 ag27 hS rfl rfl rfl (by kernel_rfl) rfl rfl rfl ?_
        intro w hS
        refine asg rfl rfl rfl ?_
        refine wq_then ?_
        refine rd mo 28 (fun w => St w0 [] ([(b9, .cells (#[I (((dcdD key (encP key d s t e bs) : Nat) : Int)), U64 (dcdS key (encP key d s t e bs)), U16 (dcdT key (encP key d s t e bs)), U16 (dcdM key (encP key d s t e bs)), .slice a50 n50 c50]) 27), (t22, .cells (tableC c21 key) 61), (c21, .cells (cipherC key) 70), (b3, .cells (#[I (d), U64 (s), U16 (t), U16 (e), .slice a n cap]) 27), (b2, .cells (BV key) 22)] ++ (X50 ++ (X26 ++ []))) w) ?_
        have hS := hS.drew
        refine dq 0 rfl (by kernel_rfl) (by kernel_rfl) (by kernel_rfl) rfl rfl (fun w hS => mv rfl rfl rfl ⟨rfl, rfl⟩) hS ?_
        refine dq 1 rfl (by kernel_rfl) (by kernel_rfl) (by kernel_rfl) rfl rfl (fun w hS => eqE (C := 40) (c := (chk d s n)) Tryz.underlying35 rfl rfl rfl ⟨rfl, rfl⟩) hS ?_
        refine dq 2 rfl (by kernel_rfl) (by kernel_rfl) (by kernel_rfl) rfl rfl (fun w hS => mv rfl rfl rfl ⟨rfl, rfl⟩) hS ?_
        refine spd 55 rfl (fun hb2 => ?_) (fun hb2 => ?_)
        · skip
          try simp only [SB] at hb2
          refine dq 3 rfl (by kernel_rfl) (by kernel_rfl) (by kernel_rfl) rfl rfl (fun w hS => mv rfl rfl rfl ⟨rfl, rfl⟩) hS ?_
          refine dq 4 rfl (by kernel_rfl) (by kernel_rfl) (by kernel_rfl) rfl rfl (fun w hS => la 4 ag22 hS rfl rfl rfl rfl (BV_size _) ⟨rfl, rfl⟩) hS ?_
          refine dq 6 rfl (by kernel_rfl) (by kernel_rfl) (by kernel_rfl) rfl rfl (fun w hS => la 3 ag27 hS rfl rfl rfl rfl rfl ⟨rfl, rfl⟩) hS ?_
          refine dl 5 rfl (by kernel_rfl) ?_
          refine cv cf15 hS rfl rfl rfl rfl rfl (sp_mooringref06_Prepare (key) _) ?_
          intro w hS
          refine ⟨fun _ => hS, ?_⟩
          refine dl 7 rfl (by kernel_rfl) ?_
          refine cs cf14 hS rfl rfl rfl rfl rfl (sp_mooringref17_Encode (key) (d) (s) (t) (e) (a) (n) (cap) (bs) _ (by first | rfl | omega | (simp; omega) | (simp; done)) (by omega) (he.st hS) (by omega) (by assumption)) ?_
          rintro _ X60 w ⟨a60, c60, rfl, hO60⟩ hS
          have hS := St.tailin (X := X60) hS [(b9, .cells (#[I (((dcdD key (encP key d s t e bs) : Nat) : Int)), U64 (dcdS key (encP key d s t e bs)), U16 (dcdT key (encP key d s t e bs)), U16 (dcdM key (encP key d s t e bs)), .slice a50 n50 c50]) 27), (t22, .cells (tableC c21 key) 61), (c21, .cells (cipherC key) 70), (b3, .cells (#[I (d), U64 (s), U16 (t), U16 (e), .slice a n cap]) 27), (b2, .cells (BV key) 22)] (X50 ++ (X26 ++ [])) rfl
          refine ⟨fun _ => (St.untail (A := [(b9, .cells (#[I (((dcdD key (encP key d s t e bs) : Nat) : Int)), U64 (dcdS key (encP key d s t e bs)), U16 (dcdT key (encP key d s t e bs)), U16 (dcdM key (encP key d s t e bs)), .slice a50 n50 c50]) 27), (t22, .cells (tableC c21 key) 61), (c21, .cells (cipherC key) 70), (b3, .cells (#[I (d), U64 (s), U16 (t), U16 (e), .slice a n cap]) 27), (b2, .cells (BV key) 22)]) (X := X60) (R := (X50 ++ (X26 ++ []))) hS), ?_⟩
          refine dl 8 rfl (by kernel_rfl) ?_
          refine cv cf13 hS rfl rfl rfl rfl rfl (sp_mooringref01_Same (a26) (n26) (c26) ((encP key d s t e bs)) (a60) ((n + 28)) (c60) ((encP key d s t e bs)) _ hO26.len8 (by omega) (hO26.cel hS (fun p hp => by simp [hp])) hO60.len8 (by omega) (hO60.cel hS (fun p hp => by simp [hp]))) ?_
          intro w hS
          refine ⟨fun _ => (St.untail (A := [(b9, .cells (#[I (((dcdD key (encP key d s t e bs) : Nat) : Int)), U64 (dcdS key (encP key d s t e bs)), U16 (dcdT key (encP key d s t e bs)), U16 (dcdM key (encP key d s t e bs)), .slice a50 n50 c50]) 27), (t22, .cells (tableC c21 key) 61), (c21, .cells (cipherC key) 70), (b3, .cells (#[I (d), U64 (s), U16 (t), U16 (e), .slice a n cap]) 27), (b2, .cells (BV key) 22)]) (X := X60) (R := (X50 ++ (X26 ++ []))) hS), ?_⟩
          refine dq 9 rfl (by kernel_rfl) (by kernel_rfl) (by kernel_rfl) rfl rfl (fun w hS => pk_t rfl rfl rfl rfl ⟨rfl, rfl⟩) (St.untail (A := [(b9, .cells (#[I (((dcdD key (encP key d s t e bs) : Nat) : Int)), U64 (dcdS key (encP key d s t e bs)), U16 (dcdT key (encP key d s t e bs)), U16 (dcdM key (encP key d s t e bs)), .slice a50 n50 c50]) 27), (t22, .cells (tableC c21 key) 61), (c21, .cells (cipherC key) 70), (b3, .cells (#[I (d), U64 (s), U16 (t), U16 (e), .slice a n cap]) 27), (b2, .cells (BV key) 22)]) (X := X60) (R := (X50 ++ (X26 ++ []))) hS) ?_
          refine dq 10 rfl (by kernel_rfl) (by kernel_rfl) (by kernel_rfl) rfl rfl (fun w hS => mv rfl rfl rfl ⟨rfl, rfl⟩) (St.untail (A := [(b9, .cells (#[I (((dcdD key (encP key d s t e bs) : Nat) : Int)), U64 (dcdS key (encP key d s t e bs)), U16 (dcdT key (encP key d s t e bs)), U16 (dcdM key (encP key d s t e bs)), .slice a50 n50 c50]) 27), (t22, .cells (tableC c21 key) 61), (c21, .cells (cipherC key) 70), (b3, .cells (#[I (d), U64 (s), U16 (t), U16 (e), .slice a n cap]) 27), (b2, .cells (BV key) 22)]) (X := X60) (R := (X50 ++ (X26 ++ []))) hS) ?_
          refine spd 63 rfl (fun hb3 => ?_) (fun hb3 => ?_)
          · skip
            try simp only [SB] at hb3
            refine dq 11 rfl (by kernel_rfl) (by kernel_rfl) (by kernel_rfl) rfl rfl (fun w hS => mv rfl rfl rfl ⟨rfl, rfl⟩) (St.untail (A := [(b9, .cells (#[I (((dcdD key (encP key d s t e bs) : Nat) : Int)), U64 (dcdS key (encP key d s t e bs)), U16 (dcdT key (encP key d s t e bs)), U16 (dcdM key (encP key d s t e bs)), .slice a50 n50 c50]) 27), (t22, .cells (tableC c21 key) 61), (c21, .cells (cipherC key) 70), (b3, .cells (#[I (d), U64 (s), U16 (t), U16 (e), .slice a n cap]) 27), (b2, .cells (BV key) 22)]) (X := X60) (R := (X50 ++ (X26 ++ []))) hS) ?_
            refine dq 12 rfl (by kernel_rfl) (by kernel_rfl) (by kernel_rfl) rfl rfl (fun w hS => lens Tryz.underlying25 rfl rfl rfl ⟨rfl, rfl⟩) (St.untail (A := [(b9, .cells (#[I (((dcdD key (encP key d s t e bs) : Nat) : Int)), U64 (dcdS key (encP key d s t e bs)), U16 (dcdT key (encP key d s t e bs)), U16 (dcdM key (encP key d s t e bs)), .slice a50 n50 c50]) 27), (t22, .cells (tableC c21 key) 61), (c21, .cells (cipherC key) 70), (b3, .cells (#[I (d), U64 (s), U16 (t), U16 (e), .slice a n cap]) 27), (b2, .cells (BV key) 22)]) (X := X60) (R := (X50 ++ (X26 ++ []))) hS) ?_
            refine dq 13 rfl (by kernel_rfl) (by kernel_rfl) (by kernel_rfl) rfl rfl (fun w hS => fan (4) (4) Tryz.underlying27 rfl sz25 (by decide) rfl rfl rfl rfl (by omega) ⟨rfl, rfl⟩) (St.untail (A := [(b9, .cells (#[I (((dcdD key (encP key d s t e bs) : Nat) : Int)), U64 (dcdS key (encP key d s t e bs)), U16 (dcdT key (encP key d s t e bs)), U16 (dcdM key (encP key d s t e bs)), .slice a50 n50 c50]) 27), (t22, .cells (tableC c21 key) 61), (c21, .cells (cipherC key) 70), (b3, .cells (#[I (d), U64 (s), U16 (t), U16 (e), .slice a n cap]) 27), (b2, .cells (BV key) 22)]) (X := X60) (R := (X50 ++ (X26 ++ []))) hS) ?_
            refine dq 14 rfl (by kernel_rfl) (by kernel_rfl) (by kernel_rfl) rfl rfl (fun w hS => lo 3 sc25 hS rfl rfl rfl rfl rfl ⟨rfl, rfl⟩) (St.untail (A := [(b9, .cells (#[I (((dcdD key (encP key d s t e bs) : Nat) : Int)), U64 (dcdS key (encP key d s t e bs)), U16 (dcdT key (encP key d s t e bs)), U16 (dcdM key (encP key d s t e bs)), .slice a50 n50 c50]) 27), (t22, .cells (tableC c21 key) 61), (c21, .cells (cipherC key) 70), (b3, .cells (#[I (d), U64 (s), U16 (t), U16 (e), .slice a n cap]) 27), (b2, .cells (BV key) 22)]) (X := X60) (R := (X50 ++ (X26 ++ []))) hS) ?_
            refine dq 15 rfl (by kernel_rfl) (by kernel_rfl) (by kernel_rfl) rfl rfl (fun w hS => lens Tryz.underlying25 rfl rfl rfl ⟨rfl, rfl⟩) (St.untail (A := [(b9, .cells (#[I (((dcdD key (encP key d s t e bs) : Nat) : Int)), U64 (dcdS key (encP key d s t e bs)), U16 (dcdT key (encP key d s t e bs)), U16 (dcdM key (encP key d s t e bs)), .slice a50 n50 c50]) 27), (t22, .cells (tableC c21 key) 61), (c21, .cells (cipherC key) 70), (b3, .cells (#[I (d), U64 (s), U16 (t), U16 (e), .slice a n cap]) 27), (b2, .cells (BV key) 22)]) (X := X60) (R := (X50 ++ (X26 ++ []))) hS) ?_
            refine dq 16 rfl (by kernel_rfl) (by kernel_rfl) (by kernel_rfl) rfl rfl (fun w hS => addi (by omega) (by omega) rfl rfl rfl rfl ⟨rfl, rfl⟩) (St.untail (A := [(b9, .cells (#[I (((dcdD key (encP key d s t e bs) : Nat) : Int)), U64 (dcdS key (encP key d s t e bs)), U16 (dcdT key (encP key d s t e bs)), U16 (dcdM key (encP key d s t e bs)), .slice a50 n50 c50]) 27), (t22, .cells (tableC c21 key) 61), (c21, .cells (cipherC key) 70), (b3, .cells (#[I (d), U64 (s), U16 (t), U16 (e), .slice a n cap]) 27), (b2, .cells (BV key) 22)]) (X := X60) (R := (X50 ++ (X26 ++ []))) hS) ?_
            refine dq 17 rfl (by kernel_rfl) (by kernel_rfl) (by kernel_rfl) rfl rfl (fun w hS => eqi rfl rfl rfl rfl ⟨rfl, rfl⟩) (St.untail (A := [(b9, .cells (#[I (((dcdD key (encP key d s t e bs) : Nat) : Int)), U64 (dcdS key (encP key d s t e bs)), U16 (dcdT key (encP key d s t e bs)), U16 (dcdM key (encP key d s t e bs)), .slice a50 n50 c50]) 27), (t22, .cells (tableC c21 key) 61), (c21, .cells (cipherC key) 70), (b3, .cells (#[I (d), U64 (s), U16 (t), U16 (e), .slice a n cap]) 27), (b2, .cells (BV key) 22)]) (X := X60) (R := (X50 ++ (X26 ++ []))) hS) ?_
            refine dq 18 rfl (by kernel_rfl) (by kernel_rfl) (by kernel_rfl) rfl rfl (fun w hS => pk_t rfl rfl rfl rfl ⟨rfl, rfl⟩) (St.untail (A := [(b9, .cells (#[I (((dcdD key (encP key d s t e bs) : Nat) : Int)), U64 (dcdS key (encP key d s t e bs)), U16 (dcdT key (encP key d s t e bs)), U16 (dcdM key (encP key d s t e bs)), .slice a50 n50 c50]) 27), (t22, .cells (tableC c21 key) 61), (c21, .cells (cipherC key) 70), (b3, .cells (#[I (d), U64 (s), U16 (t), U16 (e), .slice a n cap]) 27), (b2, .cells (BV key) 22)]) (X := X60) (R := (X50 ++ (X26 ++ []))) hS) ?_
            refine dq 19 rfl (by kernel_rfl) (by kernel_rfl) (by kernel_rfl) rfl rfl (fun w hS => mv rfl rfl rfl ⟨rfl, rfl⟩) (St.untail (A := [(b9, .cells (#[I (((dcdD key (encP key d s t e bs) : Nat) : Int)), U64 (dcdS key (encP key d s t e bs)), U16 (dcdT key (encP key d s t e bs)), U16 (dcdM key (encP key d s t e bs)), .slice a50 n50 c50]) 27), (t22, .cells (tableC c21 key) 61), (c21, .cells (cipherC key) 70), (b3, .cells (#[I (d), U64 (s), U16 (t), U16 (e), .slice a n cap]) 27), (b2, .cells (BV key) 22)]) (X := X60) (R := (X50 ++ (X26 ++ []))) hS) ?_
            refine spd 72 rfl (fun hb4 => ?_) (fun hb4 => ?_)
            · skip
              try simp only [SB] at hb4
              refine dq 20 rfl (by kernel_rfl) (by kernel_rfl) (by kernel_rfl) rfl rfl (fun w hS => mv rfl rfl rfl ⟨rfl, rfl⟩) (St.untail (A := [(b9, .cells (#[I (((dcdD key (encP key d s t e bs) : Nat) : Int)), U64 (dcdS key (encP key d s t e bs)), U16 (dcdT key (encP key d s t e bs)), U16 (dcdM key (encP key d s t e bs)), .slice a50 n50 c50]) 27), (t22, .cells (tableC c21 key) 61), (c21, .cells (cipherC key) 70), (b3, .cells (#[I (d), U64 (s), U16 (t), U16 (e), .slice a n cap]) 27), (b2, .cells (BV key) 22)]) (X := X60) (R := (X50 ++ (X26 ++ []))) hS) ?_
              refine dq 21 rfl (by kernel_rfl) (by kernel_rfl) (by kernel_rfl) rfl rfl (fun w hS => eqE (C := 40) (c := (dcdE key (encP key d s t e bs))) Tryz.underlying35 rfl rfl rfl ⟨rfl, rfl⟩) (St.untail (A := [(b9, .cells (#[I (((dcdD key (encP key d s t e bs) : Nat) : Int)), U64 (dcdS key (encP key d s t e bs)), U16 (dcdT key (encP key d s t e bs)), U16 (dcdM key (encP key d s t e bs)), .slice a50 n50 c50]) 27), (t22, .cells (tableC c21 key) 61), (c21, .cells (cipherC key) 70), (b3, .cells (#[I (d), U64 (s), U16 (t), U16 (e), .slice a n cap]) 27), (b2, .cells (BV key) 22)]) (X := X60) (R := (X50 ++ (X26 ++ []))) hS) ?_
              refine dq 22 rfl (by kernel_rfl) (by kernel_rfl) (by kernel_rfl) rfl rfl (fun w hS => pk_t rfl rfl rfl rfl ⟨rfl, rfl⟩) (St.untail (A := [(b9, .cells (#[I (((dcdD key (encP key d s t e bs) : Nat) : Int)), U64 (dcdS key (encP key d s t e bs)), U16 (dcdT key (encP key d s t e bs)), U16 (dcdM key (encP key d s t e bs)), .slice a50 n50 c50]) 27), (t22, .cells (tableC c21 key) 61), (c21, .cells (cipherC key) 70), (b3, .cells (#[I (d), U64 (s), U16 (t), U16 (e), .slice a n cap]) 27), (b2, .cells (BV key) 22)]) (X := X60) (R := (X50 ++ (X26 ++ []))) hS) ?_
              refine dq 23 rfl (by kernel_rfl) (by kernel_rfl) (by kernel_rfl) rfl rfl (fun w hS => mv rfl rfl rfl ⟨rfl, rfl⟩) (St.untail (A := [(b9, .cells (#[I (((dcdD key (encP key d s t e bs) : Nat) : Int)), U64 (dcdS key (encP key d s t e bs)), U16 (dcdT key (encP key d s t e bs)), U16 (dcdM key (encP key d s t e bs)), .slice a50 n50 c50]) 27), (t22, .cells (tableC c21 key) 61), (c21, .cells (cipherC key) 70), (b3, .cells (#[I (d), U64 (s), U16 (t), U16 (e), .slice a n cap]) 27), (b2, .cells (BV key) 22)]) (X := X60) (R := (X50 ++ (X26 ++ []))) hS) ?_
              refine spd 76 rfl (fun hb5 => ?_) (fun hb5 => ?_)
              · skip
                try simp only [SB] at hb5
                refine dq 24 rfl (by kernel_rfl) (by kernel_rfl) (by kernel_rfl) rfl rfl (fun w hS => la 0 ag27 hS rfl rfl rfl rfl rfl ⟨rfl, rfl⟩) (St.untail (A := [(b9, .cells (#[I (((dcdD key (encP key d s t e bs) : Nat) : Int)), U64 (dcdS key (encP key d s t e bs)), U16 (dcdT key (encP key d s t e bs)), U16 (dcdM key (encP key d s t e bs)), .slice a50 n50 c50]) 27), (t22, .cells (tableC c21 key) 61), (c21, .cells (cipherC key) 70), (b3, .cells (#[I (d), U64 (s), U16 (t), U16 (e), .slice a n cap]) 27), (b2, .cells (BV key) 22)]) (X := X60) (R := (X50 ++ (X26 ++ []))) hS) ?_
                refine dq 25 rfl (by kernel_rfl) (by kernel_rfl) (by kernel_rfl) rfl rfl (fun w hS => la 3 ag27 hS rfl rfl rfl rfl rfl ⟨rfl, rfl⟩) (St.untail (A := [(b9, .cells (#[I (((dcdD key (encP key d s t e bs) : Nat) : Int)), U64 (dcdS key (encP key d s t e bs)), U16 (dcdT key (encP key d s t e bs)), U16 (dcdM key (encP key d s t e bs)), .slice a50 n50 c50]) 27), (t22, .cells (tableC c21 key) 61), (c21, .cells (cipherC key) 70), (b3, .cells (#[I (d), U64 (s), U16 (t), U16 (e), .slice a n cap]) 27), (b2, .cells (BV key) 22)]) (X := X60) (R := (X50 ++ (X26 ++ []))) hS) ?_
                refine dl 26 rfl (by kernel_rfl) ?_
                refine cv cf16 hS rfl rfl rfl rfl rfl (sp_mooringref17_Same (((dcdD key (encP key d s t e bs) : Nat) : Int)) ((dcdS key (encP key d s t e bs))) ((dcdT key (encP key d s t e bs))) ((dcdM key (encP key d s t e bs))) (a50) (n50) (c50) ((dcdP key (encP key d s t e bs))) (d) (s) (t) (e) (a) (n) (cap) (bs) _ hl50 (by omega) (hR50 _ _ _ _ hS (fun p hp => by simp [hp])) (by first | rfl | omega | (simp; omega) | (simp; done)) (by omega) (he.st hS)) ?_
                intro w hS
                refine ⟨fun _ => (St.untail (A := [(b9, .cells (#[I (((dcdD key (encP key d s t e bs) : Nat) : Int)), U64 (dcdS key (encP key d s t e bs)), U16 (dcdT key (encP key d s t e bs)), U16 (dcdM key (encP key d s t e bs)), .slice a50 n50 c50]) 27), (t22, .cells (tableC c21 key) 61), (c21, .cells (cipherC key) 70), (b3, .cells (#[I (d), U64 (s), U16 (t), U16 (e), .slice a n cap]) 27), (b2, .cells (BV key) 22)]) (X := X60) (R := (X50 ++ (X26 ++ []))) hS), ?_⟩
                refine dq 27 rfl (by kernel_rfl) (by kernel_rfl) (by kernel_rfl) rfl rfl (fun w hS => pk_t rfl rfl rfl rfl ⟨rfl, rfl⟩) (St.untail (A := [(b9, .cells (#[I (((dcdD key (encP key d s t e bs) : Nat) : Int)), U64 (dcdS key (encP key d s t e bs)), U16 (dcdT key (encP key d s t e bs)), U16 (dcdM key (encP key d s t e bs)), .slice a50 n50 c50]) 27), (t22, .cells (tableC c21 key) 61), (c21, .cells (cipherC key) 70), (b3, .cells (#[I (d), U64 (s), U16 (t), U16 (e), .slice a n cap]) 27), (b2, .cells (BV key) 22)]) (X := X60) (R := (X50 ++ (X26 ++ []))) hS) ?_
                refine dl 28 rfl (by kernel_rfl) ?_
                refine asg rfl rfl rfl ?_
                refine ⟨fun h => (by cases h), ?_⟩
                refine de (by kernel_rfl) ?_
                refine wq_then ?_
                refine wc_ret ?_
                refine fin1 (v := .bool (sameR ((dcdD key (encP key d s t e bs) : Nat) : Int) d (dcdS key (encP key d s t e bs)) s (dcdT key (encP key d s t e bs)) t (dcdM key (encP key d s t e bs)) e (dcdP key (encP key d s t e bs)) bs)) rfl rfl ?_
                refine ⟨?_, hS.drop⟩
                rw [hQ]
              · skip
                try simp only [SB] at hb5
                exact absurd hD hb5
            · skip
              try simp only [SB] at hb4
              exfalso; omega
          · skip
            try simp only [SB] at hb3
            exact absurd trivial hb3
        · skip
          try simp only [SB] at hb2
          exact absurd hE hb2
end Go.Proofs.XZ

/- PacketMatchesReference -/

namespace Go.Proofs.YtffhheogdmekdaaGreatDoor.packetMatchesReferenceP
open Go Go.ChangeShapes Go.WideShapes Go.ChangeAt Go.RowKit Go.Deep Go.X

theorem own : ownKnob Tryz.prog.godebug = none := by kernel_rfl
theorem laidOut : laidOutB Tryz.prog = true := by kernel_rfl
theorem gTab : Tryz.prog.globalNamed "math/bits.deBruijn64tab" = some 0 := by kernel_rfl
theorem gTabType : (Tryz.prog.globals[0]?).map (·.type) = some 177 := by kernel_rfl
theorem cellsGT : Tryz.prog.cellsOf 177 = 64 := by kernel_rfl
theorem cells5 : Tryz.prog.cellsOf 5 = 1 := by kernel_rfl
theorem rr22 : Tryz.prog.readableRec 22 = true ∧ 22 < Tryz.prog.types.size := ⟨by kernel_rfl, of_decide_eq_true (by kernel_rfl)⟩
theorem rr27 : Tryz.prog.readableRec 27 = true ∧ 27 < Tryz.prog.types.size := ⟨by kernel_rfl, of_decide_eq_true (by kernel_rfl)⟩
theorem ws22 : Tryz.prog.wantsStandIn 22 = false := by kernel_rfl
theorem ws27 : Tryz.prog.wantsStandIn 27 = false := by kernel_rfl
theorem cells22 : Tryz.prog.cellsOf 22 = 16 := by kernel_rfl
theorem cells27 : Tryz.prog.cellsOf 27 = 5 := by kernel_rfl
theorem reads : ∀ t ∈ Tryz.f3.params.toList, Tryz.prog.readableRec t = true ∧ t < Tryz.prog.types.size := by
  rw [Tryz.params3]; intro t ht
  simp only [List.mem_cons, List.not_mem_nil, or_false] at ht
  rcases ht with rfl | rfl
  · exact rr22
  · exact rr27

/-- what the row's list gives: the table of the numbers of zeros -/
theorem table {W : World} (h : laidMetH Tryz.prog Rows.packetMatchesReferenceRow.laid W) : Lib.TabIs Tryz.prog W "math/bits.deBruijn64tab" .u8 deBz :=
  Lib.tabIs_of_head (rest := []) gTab gTabType Tryz.underlying177 Tryz.underlying5 cells5 cellsGT h

set_option maxRecDepth 100000 in
/-- what the walk gives, for every argument and every world that holds the table -/
theorem contract (H : Type) (enc : TypeId × Value → H) (W : World) (base : Nat) (args : Array Value) (ds gs : List (DataW H)) (before : List MemPlace)
    (hval : ∀ (j : Nat) t v, Tryz.f3.params[j]? = some t → args[j]? = some v → Value.okWide Tryz.prog W .any base t v)
    (hW : DataW.Whole enc Tryz.prog Tryz.f3.params.toList Rows.packetMatchesReferenceSpec.vars false W args.toList ds gs before) (hL : laidMetH Tryz.prog Rows.packetMatchesReferenceRow.laid W) :
    Calls Tryz.prog 3 args W fun e W' => ∃ v, e = .returned v ∧ Rows.packetMatchesReferenceSpec.post enc Tryz.prog Tryz.f3 false true false false W args v W' := by
  have hW' := hW
  obtain ⟨p, q, hA0, hV, rfl, hfz, hnd⟩ := hW
  have hA : DataW.TrodAll enc Tryz.prog W 0 (fun _ => true) true Tryz.f3.params.toList args.toList ds p := hA0
  have hAk := hA
  have hlt : ∀ x ∈ p, x.block < W.heap.size := fun x hx => hW'.lt x (by simp [hx])
  rw [Tryz.params3] at hA hval
  obtain ⟨v0, vs0, d0, ds0, p0, q0, hargs, rfl, rfl, h0, r0⟩ := trodAll_cons hA
  obtain ⟨v1, vs1, d1, ds1, p1, q1, rfl, rfl, rfl, h1, r1⟩ := trodAll_cons r0
  obtain ⟨rfl, rfl, rfl⟩ := trodAll_nil r1
  obtain ⟨rfl, rfl⟩ := trodVars_none hV
  have hG : Gl 0 W := gl_of_tab gTab (table hL)
  obtain rfl : args = #[v0, v1] := by cases args; simp_all
  obtain ⟨k0, rfl⟩ := arg_array Tryz.underlying22 Tryz.underlying5 cells5 cells22 (hval 0 22 v0 rfl rfl) h0
  obtain ⟨dr1, s1, t1, e1, a1, n1, c1, b1, rfl, hd1, hn1, hl1, hc1⟩ := arg_packet Tryz.underlying27 (by kernel_rfl) cells27 Tryz.underlying3 Tryz.underlying23 Tryz.underlying24 Tryz.underlying24 Tryz.underlying25 Tryz.underlying5 cells5 (hval 1 27 v1 rfl rfl) h1
  refine (XZ.sp_mooringlaw17_PacketMatchesReference k0 dr1 s1 t1 e1 a1 n1 c1 b1 W hn1 hc1 hl1 hd1 hG).mono fun e W' ⟨he, hS⟩ => ?_
  subst he
  have hb := hS.below
  exact ⟨_, rfl, _, _, _, [], _, [], hW', trodAll_cons_mk (shut_bool Tryz.underlying4 _) trodAll_mk0, args_below laidOut reads hAk hb hlt, rfl, hb.frame _, fun h => by cases h⟩

/-- a world for the witness -/
noncomputable def laidWorld (os : Os) : World :=
  { World.holding Tryz.prog os ⟨#[], #[], []⟩ with heap := (World.holding Tryz.prog os ⟨#[], #[], []⟩).heap.modify 0 fun
      | .cells _ t frozen => .cells (deBz.map fun z => Value.int .u8 z).toArray t frozen
      | o => o }
theorem laid_met (os : Os) : laidMet Tryz.prog Rows.packetMatchesReferenceRow.laid ((laidWorld os).forCall (fun _ _ => 0) ⟨#[], #[.agg (List.replicate 16 (Value.int .u8 0)).toArray, .agg #[.int .i64 0, .int .u64 0, .int .u16 0, .int .u16 0, .slice none 0 0]], []⟩).memory :=
  laidMet_of_run' 8 (by kernel_rfl) (by kernel_rfl)
theorem reading (os : Os) {H : Type} (enc : TypeId × Value → H) : ∃ places, DataW.whole enc Tryz.prog ((laidWorld os).forCall (fun _ _ => 0) ⟨#[], #[.agg (List.replicate 16 (Value.int .u8 0)).toArray, .agg #[.int .i64 0, .int .u64 0, .int .u16 0, .int .u16 0, .slice none 0 0]], []⟩).memory Tryz.f3.params.toList Rows.packetMatchesReferenceSpec.vars false (#[.agg (List.replicate 16 (Value.int .u8 0)).toArray, .agg #[.int .i64 0, .int .u64 0, .int .u16 0, .int .u16 0, .slice none 0 0]] : Array Value).toList 8 = some ([.agg (List.replicate 16 (DataW.lit (.int .u8 0))), .agg [.lit (.int .i64 0), .lit (.int .u64 0), .lit (.int .u16 0), .lit (.int .u16 0), .nil]], [], places) :=
  ⟨[], by kernel_rfl⟩

set_option maxRecDepth 100000 in
theorem lifted (os : Os) (started : os.Started) (H : Type) (enc : TypeId × Value → H) (F : Stop.Interp) :
    ReturnsInHanded {} Tryz.checked os 3 .any ((OpenSpec.ofChange Rows.packetMatchesReferenceSpec).preRow enc Tryz.prog Tryz.f3 Rows.packetMatchesReferenceRow.domain false Rows.packetMatchesReferenceRow.laid) (((OpenSpec.ofChange Rows.packetMatchesReferenceSpec).at F).post enc Tryz.prog Tryz.f3 false true false false) := by
  obtain ⟨places, hx⟩ := reading os enc
  refine returnsInHanded_of_row (C := Tryz.checked) (s := OpenSpec.ofChange Rows.packetMatchesReferenceSpec) own started (by kernel_rfl) Tryz.func3
    (witness_row_at (enc := enc) (C := Tryz.checked) false (laidWorld os) #[.agg (List.replicate 16 (Value.int .u8 0)).toArray, .agg #[.int .i64 0, .int .u64 0, .int .u16 0, .int .u16 0, .slice none 0 0]] rfl (by kernel_rfl) (by kernel_rfl) (by kernel_rfl)
      (OpenSpec.preRow_of_cond 8 hx (by kernel_rfl) (fun k hk => by cases hk) (by kernel_rfl) (laid_met os))) ?_
  intro W base args ds gs before hval hW _ _ _ hL _ _
  exact contract H enc W base args ds gs before hval hW hL

theorem said : Rows.PacketMatchesReferenceSaid :=
  OpenClaim.holds_of_cond 3 Tryz.f3 rfl rfl rfl rfl rfl rfl rfl ⟨rfl, rfl, rfl, rfl, rfl⟩ rfl rfl rfl rfl rfl (by kernel_rfl) Tryz.func3 (by kernel_rfl)
    (of_decide_eq_true (by kernel_rfl)) (by unfold Func.isWrapper; first | (rw [if_pos (by decide +kernel)]; kernel_rfl) | (rw [if_neg (by decide +kernel)]; exact ⟨rfl, rfl⟩))
    (fun os started H enc _ F => by rw [OpenClaim.pre_eq_preRow]; exact lifted os started H enc F)

theorem plain (f : FuncId) (fn : Func) (hf : Tryz.pinned.checked.prog.funcNamed "mooring/mooringlaw17.PacketMatchesReference" = some f) (hfn : Tryz.pinned.checked.prog.funcs[f]? = some fn) :
    true = Tryz.pinned.checked.prog.looks [] ∧ ∀ (j : Nat) t, fn.params[j]? = some t → Tryz.pinned.checked.prog.wantsStandIn t = false := by
  obtain rfl : f = 3 := Option.some.inj ((show Tryz.prog.funcNamed "mooring/mooringlaw17.PacketMatchesReference" = some 3 by kernel_rfl).symm.trans hf) |>.symm
  obtain rfl : fn = Tryz.f3 := (Option.some.inj (Tryz.func3.symm.trans hfn)).symm
  refine ⟨by kernel_rfl, fun j t ht => ?_⟩
  rw [Tryz.params3] at ht
  have hm := Array.mem_of_getElem? ht
  simp only [List.mem_toArray, List.mem_cons, List.not_mem_nil, or_false] at hm
  rcases hm with rfl | rfl
  · exact ws22
  · exact ws27
end Go.Proofs.YtffhheogdmekdaaGreatDoor.packetMatchesReferenceP
namespace Go.Proofs.YtffhheogdmekdaaGreatDoor
open Go
/-- the tied card -/
theorem packetMatchesReference_card : Rows.PacketMatchesReferenceCardSaid :=
  Claim7.holds_tied_plain_at .later [] _ _ _ _ packetMatchesReferenceP.said (fun _ h => by cases h) (by kernel_rfl) (fun _ h => by cases h) packetMatchesReference_row_tie rfl ⟨rfl, rfl⟩ (by kernel_rfl) rfl packetMatchesReferenceP.plain (by kernel_rfl)
#print axioms packetMatchesReference_card
end Go.Proofs.YtffhheogdmekdaaGreatDoor
