/- The statement PacketPeeks: for every slice of bytes and every number the call of mooringlaw17.PacketPeeks returns true and leaves its arguments as they were. Conditions: those of the given card (the table math/bits.deBruijn64tab holds what the text lays). -/
import Derived.Test.YtffhheogdmekdaaDoorBase5
import Derived.Test.YtffhheogdmekdaaDoorProg
import Derived.Test.YtffhheogdmekdaaDoorCards
import Derived.Test.YtffhheogdmekdaaDoorTie
set_option linter.unusedVariables false
set_option linter.unusedSimpArgs false
set_option linter.unnecessarySimpa false
/- walks -/
namespace Go.Proofs.XX
open Go Go.X Go.Proofs
set_option maxRecDepth 1000000 in
theorem cf6 : Callable Tryd.prog 6 := ⟨_, Tryd.func6, by kernel_rfl, rfl⟩
end Go.Proofs.XX

/- walks -/
namespace Go.Proofs.XX
open Go Go.X Go.Proofs
set_option maxRecDepth 1000000 in
theorem cf9 : Callable Tryd.prog 9 := ⟨_, Tryd.func9, by kernel_rfl, rfl⟩
end Go.Proofs.XX

/- walks -/
namespace Go.Proofs.XX
open Go Go.X Go.Proofs
set_option maxRecDepth 100000 in
theorem sp_mooringref01_Number (a : Option Addr) (n cap : Nat) (bs : List UInt8) (w0 : World) (hn : bs.length = n) (hN : n ≤ 1000000) (hc : Cel w0 a (c8 bs)) : Calls Tryd.prog 21 #[.slice a n cap] w0 (Ret w0 (U64 (num2 bs))) := by
  refine enter (args := [.slice a n cap]) Tryd.func21 rfl rfl ?_
  refine startw fun w hS => ?_
  refine rg ?_
  refine asg rfl rfl rfl ?_
  refine wq_then ?_
  refine rg ?_
  refine asg rfl rfl rfl ?_
  refine wq_then ?_
  refine wc_seq ?_
  refine rg ?_
  refine asg rfl rfl rfl ?_
  refine wq_then ?_
  refine wc_block ?_
  refine wc_loop (σ := Nat) (fun k => [(0, .slice a n cap), (2, U64 (0)), (3, U64 (num2 (bs.take k))), (4, I ((k : Int)))])
    (fun k w => (k ≤ n) ∧ St w0 [] [] w) (fun k => n - k) 0 ⟨rfl, rfl, rfl, rfl, trivial⟩ ⟨by omega, hS⟩ ?_
  rintro k w ⟨hk, hS⟩
  refine wc_seq ?_
  refine rg ?_
  refine mv rfl rfl rfl ?_
  refine mv rfl rfl rfl ?_
  refine lens Tryd.underlying22 rfl rfl rfl ?_
  refine lss rfl rfl rfl rfl ?_
  refine wq_then ?_
  refine wc_if rfl (fun hc1 => ?_) (fun hc1 => ?_)
  · skip
    try simp only [SB] at hc1
    refine wc_skip ?_
    refine wq_then ?_
    refine wc_seq ?_
    refine wc_block ?_
    refine wc_region ?_
    refine mv rfl rfl rfl ?_
    refine mul64 (q := (256 : UInt64)) rfl rfl rfl rfl ?_
    refine mv rfl rfl rfl ?_
    refine mv rfl rfl rfl ?_
    refine slx (k) Tryd.underlying22 sz5 rfl rfl rfl rfl (by omega) (by omega) ((hc.st hS).some8 (j := k) (by first | omega | (simp; done) | (simp; omega))) ?_
    refine ldx sc5 rfl rfl rfl (hc.st hS) (by first | omega | (simp; done) | (simp; omega)) ?_
    refine cvu64 Tryd.underlying24 ⟨_, Tryd.underlying5⟩ rfl rfl rfl ?_
    refine add64 rfl rfl rfl rfl ?_
    refine asg rfl rfl rfl ?_
    refine q_block_norm ?_
    refine wq_then ?_
    refine wc_region ?_
    refine mv rfl rfl rfl ?_
    refine addi (by omega) (by omega) rfl rfl rfl rfl ?_
    refine asg rfl rfl rfl ?_
    refine again_q (k + 1) ⟨rfl, rfl, lkU64 rfl (num2_take _ _ (by omega)), lkI rfl (by first | omega | rfl), trivial⟩ ⟨by omega, hS⟩ (by omega)
  · skip
    try simp only [SB] at hc1
    have hk4 : k = bs.length := by omega
    refine wc_exit ?_
    refine q_then_exit ?_
    refine q_then_exit ?_
    refine q_block_hit ?_
    refine wq_then ?_
    refine rg ?_
    refine mv rfl rfl rfl ?_
    refine asg rfl rfl rfl ?_
    refine wq_then ?_
    refine wc_ret ?_
    refine fin1 (v := U64 (num2 (bs.take k))) rfl rfl ?_
    refine ⟨?_, hS.drop⟩
    rw [hk4, List.take_length]
end Go.Proofs.XX

/- walks -/
namespace Go.Proofs.XX
open Go Go.X Go.Proofs
set_option maxRecDepth 100000 in
theorem sp_mooringref15_ParseHead (a : Option Addr) (n cap : Nat) (bs : List UInt8) (w0 : World) (hn : bs.length = n) (hN : n ≤ 1000000) (hc : Cel w0 a (c8 bs)) (hcap : n ≤ cap) (h8 : 8 ≤ n) : Calls Tryd.prog 9 #[.slice a n cap] w0 (Ret w0 (.tuple #[I ((headD2 bs : Nat) : Int), U64 (headS2 bs)])) := by
  refine enter (args := [.slice a n cap]) Tryd.func9 rfl rfl ?_
  refine startw fun w hS => ?_
  refine rg ?_
  refine asg rfl rfl rfl ?_
  refine asg rfl rfl rfl ?_
  refine wq_then ?_
  refine rg ?_
  refine mv rfl rfl rfl ?_
  refine s_h (8) Tryd.underlying22 ⟨_, sz5⟩ rfl rfl rfl rfl (by omega) (by omega) ?_
  refine cv cf21 hS rfl rfl rfl rfl rfl (sp_mooringref01_Number (a) (8) (cap) (((bs).take 8)) _ (by first | rfl | omega | (simp; omega) | (simp; done)) (by omega) ((hc.st hS).take8 8)) ?_
  intro w hS
  refine asg rfl rfl rfl ?_
  refine wq_then ?_
  refine wc_seq ?_
  refine rg ?_
  refine mv rfl rfl rfl ?_
  refine geq rfl rfl rfl rfl ?_
  refine wq_then ?_
  refine wc_if rfl (fun hc1 => ?_) (fun hc1 => ?_)
  · skip
    try simp only [SB] at hc1
    refine rg ?_
    refine mv rfl rfl rfl ?_
    refine sub64 (q := (9223372036854775808 : UInt64)) rfl rfl rfl rfl ?_
    refine asg rfl rfl rfl ?_
    refine asg rfl rfl rfl ?_
    refine wq_then ?_
    refine wc_ret ?_
    refine q_then_ret ?_
    refine fin2 (v := I (1)) (u := U64 ((num2 ((bs).take 8)) - 9223372036854775808)) rfl rfl rfl ?_
    refine ⟨?_, hS.drop⟩
    have hg : 9223372036854775808 ≤ (num2 (bs.take 8)).toNat := by omega
    simp only [headD2, headS2, if_pos hg]; rfl
  · skip
    try simp only [SB] at hc1
    refine wc_skip ?_
    refine wq_then ?_
    refine rg ?_
    refine mv rfl rfl rfl ?_
    refine asg rfl rfl rfl ?_
    refine asg rfl rfl rfl ?_
    refine wq_then ?_
    refine wc_ret ?_
    refine fin2 (v := I (0)) (u := U64 (num2 ((bs).take 8))) rfl rfl rfl ?_
    refine ⟨?_, hS.drop⟩
    have hg : ¬ 9223372036854775808 ≤ (num2 (bs.take 8)).toNat := by omega
    simp only [headD2, headS2, if_neg hg]; rfl
end Go.Proofs.XX

/- walks -/
namespace Go.Proofs.XX
open Go Go.X Go.Proofs
set_option maxRecDepth 100000 in
theorem sp_mooringlaw17_PacketPeeks (a : Option Addr) (n cap : Nat) (bs : List UInt8) (p : Int) (w0 : World) (hn : bs.length = n) (hc : Cel w0 a (c8 bs)) (hcap : n ≤ cap) (hG : Gl 0 w0) : Calls Tryd.prog 3 #[.slice a n cap, I p] w0 (Ret w0 (.bool true)) := by
  refine enter (args := [.slice a n cap, I p]) Tryd.func3 rfl rfl ?_
  refine startw fun w hS => ?_
  refine rg ?_
  refine asg rfl rfl rfl ?_
  refine wq_then ?_
  refine wc_seq ?_
  refine rg ?_
  refine cv cf6 hS rfl rfl rfl rfl rfl (sp_mooringlaw17_awake _ (hG.st hS)) ?_
  intro w hS
  refine notb rfl rfl rfl ?_
  refine mv rfl rfl rfl ?_
  refine mv rfl rfl rfl ?_
  refine lens Tryd.underlying22 rfl rfl rfl ?_
  refine gtr rfl rfl rfl rfl ?_
  refine pk_f rfl rfl rfl rfl ?_
  refine wq_then ?_
  refine wc_if rfl (fun hc1 => ?_) (fun hc1 => ?_)
  · skip
    try simp only [SB] at hc1
    refine rg ?_
    refine cv cf6 hS rfl rfl rfl rfl rfl (sp_mooringlaw17_awake _ (hG.st hS)) ?_
    intro w hS
    refine asg rfl rfl rfl ?_
    refine wq_then ?_
    refine wc_ret ?_
    refine q_then_ret ?_
    refine fin1 (v := .bool (true)) rfl rfl ?_
    exact ⟨rfl, hS.drop⟩
  · skip
    try simp only [SB] at hc1
    refine wc_skip ?_
    refine wq_then ?_
    refine rg ?_
    refine mv rfl rfl rfl ?_
    refine cv cf7 hS rfl rfl rfl rfl rfl (sp_packet_Peek (a) (n) (cap) (bs) _ (by first | rfl | omega | (simp; omega) | (simp; done)) (by omega) (hc.st hS) (by omega)) ?_
    intro w hS
    refine mv rfl rfl rfl ?_
    refine ext rfl rfl rfl rfl ?_
    refine ext rfl rfl rfl rfl ?_
    refine ext rfl rfl rfl rfl ?_
    refine asg rfl rfl rfl ?_
    refine asg rfl rfl rfl ?_
    refine asg rfl rfl rfl ?_
    refine wq_then ?_
    refine rg ?_
    refine mv rfl rfl rfl ?_
    refine cv cf8 hS rfl rfl rfl rfl rfl (sp_packet_Size (p) _) ?_
    intro w hS
    have hz1 : (0 ≤ p ∧ p ≤ 1200) → (if 0 ≤ p ∧ p ≤ 1200 then p + 28 else 0) = p + 28 := fun h => if_pos h
    have hz2 : ¬ (0 ≤ p ∧ p ≤ 1200) → (if 0 ≤ p ∧ p ≤ 1200 then p + 28 else 0) = 0 := fun h => if_neg h
    refine asg rfl rfl rfl ?_
    refine wq_then ?_
    refine wc_seq ?_
    refine rg ?_
    refine mv rfl rfl rfl ?_
    refine geq rfl rfl rfl rfl ?_
    refine mv rfl rfl rfl ?_
    refine spl 29 rfl (fun hb1 => ?_) (fun hb1 => ?_)
    · skip
      try simp only [SB] at hb1
      refine mv rfl rfl rfl ?_
      refine leq rfl rfl rfl rfl ?_
      refine pk_t rfl rfl rfl rfl ?_
      refine mv rfl rfl rfl ?_
      refine spl 33 rfl (fun hb2 => ?_) (fun hb2 => ?_)
      · skip
        try simp only [SB] at hb2
        refine mv rfl rfl rfl ?_
        refine mv rfl rfl rfl ?_
        refine addi (by omega) (by omega) rfl rfl rfl rfl ?_
        refine nei rfl rfl rfl rfl ?_
        refine pk_t rfl rfl rfl rfl ?_
        refine mv rfl rfl rfl ?_
        refine spl 39 rfl (fun hb3 => ?_) (fun hb3 => ?_)
        · skip
          try simp only [SB] at hb3
          refine no rfl rfl ?_
          refine no rfl rfl ?_
          refine no rfl rfl ?_
          refine no rfl rfl ?_
          refine no rfl rfl ?_
          refine no rfl rfl ?_
          refine no rfl rfl ?_
          refine no rfl rfl ?_
          refine no rfl rfl ?_
          refine no rfl rfl ?_
          refine pk_t rfl rfl rfl rfl ?_
          refine wq_then ?_
          refine wc_if_t rfl ?_
          refine rg ?_
          refine asg rfl rfl rfl ?_
          refine wq_then ?_
          refine wc_ret ?_
          refine q_then_ret ?_
          refine fin1 (v := .bool (false)) rfl rfl ?_
          exfalso; omega
        · skip
          try simp only [SB] at hb3
          refine mv rfl rfl rfl ?_
          refine lss rfl rfl rfl rfl ?_
          refine mv rfl rfl rfl ?_
          refine spl 42 rfl (fun hb4 => ?_) (fun hb4 => ?_)
          · skip
            try simp only [SB] at hb4
            refine no rfl rfl ?_
            refine no rfl rfl ?_
            refine pk_t rfl rfl rfl rfl ?_
            refine mv rfl rfl rfl ?_
            refine mv rfl rfl rfl ?_
            refine nei rfl rfl rfl rfl ?_
            refine pk_t rfl rfl rfl rfl ?_
            refine pk_f rfl rfl rfl rfl ?_
            refine wq_then ?_
            refine wc_if rfl (fun hc2 => ?_) (fun hc2 => ?_)
            · skip
              try simp only [SB] at hc2
              refine rg ?_
              refine asg rfl rfl rfl ?_
              refine wq_then ?_
              refine wc_ret ?_
              refine q_then_ret ?_
              refine fin1 (v := .bool (false)) rfl rfl ?_
              exfalso; omega
            · skip
              try simp only [SB] at hc2
              refine wc_skip ?_
              refine wq_then ?_
              refine wc_seq ?_
              refine rg ?_
              refine mv rfl rfl rfl ?_
              refine lens Tryd.underlying22 rfl rfl rfl ?_
              refine lss rfl rfl rfl rfl ?_
              refine mv rfl rfl rfl ?_
              refine spl 54 rfl (fun hb5 => ?_) (fun hb5 => ?_)
              · skip
                try simp only [SB] at hb5
                have hl : lng n ≠ 0 := lng_bad (by omega)
                obtain ⟨hD, hQ⟩ := peek_bad hn hl
                refine no rfl rfl ?_
                refine no rfl rfl ?_
                refine no rfl rfl ?_
                refine pk_t rfl rfl rfl rfl ?_
                refine wq_then ?_
                refine wc_if_t rfl ?_
                refine rg ?_
                refine mv rfl rfl rfl ?_
                refine notb rfl rfl rfl ?_
                refine mv rfl rfl rfl ?_
                refine spl 61 rfl (fun hb6 => ?_) (fun hb6 => ?_)
                · skip
                  try simp only [SB] at hb6
                  refine mv rfl rfl rfl ?_
                  refine eqi rfl rfl rfl rfl ?_
                  refine pk_t rfl rfl rfl rfl ?_
                  refine mv rfl rfl rfl ?_
                  refine spl 65 rfl (fun hb7 => ?_) (fun hb7 => ?_)
                  · skip
                    try simp only [SB] at hb7
                    refine mv rfl rfl rfl ?_
                    refine eqi rfl rfl rfl rfl ?_
                    refine pk_t rfl rfl rfl rfl ?_
                    refine asg rfl rfl rfl ?_
                    refine wq_then ?_
                    refine wc_ret ?_
                    refine q_then_ret ?_
                    refine fin1 (v := .bool ((((peekS bs).toNat : Int) : Int) == (0 : Int))) rfl rfl ?_
                    refine ⟨?_, hS.drop⟩
                    rw [hQ]; rfl
                  · skip
                    try simp only [SB] at hb7
                    exfalso; omega
                · skip
                  try simp only [SB] at hb6
                  exfalso; omega
              · skip
                try simp only [SB] at hb5
                refine mv rfl rfl rfl ?_
                refine lens Tryd.underlying22 rfl rfl rfl ?_
                refine gtr rfl rfl rfl rfl ?_
                refine pk_f rfl rfl rfl rfl ?_
                refine wq_then ?_
                refine wc_if rfl (fun hc3 => ?_) (fun hc3 => ?_)
                · skip
                  try simp only [SB] at hc3
                  have hl : lng n ≠ 0 := lng_bad (by omega)
                  obtain ⟨hD, hQ⟩ := peek_bad hn hl
                  refine rg ?_
                  refine mv rfl rfl rfl ?_
                  refine notb rfl rfl rfl ?_
                  refine mv rfl rfl rfl ?_
                  refine spl 61 rfl (fun hb8 => ?_) (fun hb8 => ?_)
                  · skip
                    try simp only [SB] at hb8
                    refine mv rfl rfl rfl ?_
                    refine eqi rfl rfl rfl rfl ?_
                    refine pk_t rfl rfl rfl rfl ?_
                    refine mv rfl rfl rfl ?_
                    refine spl 65 rfl (fun hb9 => ?_) (fun hb9 => ?_)
                    · skip
                      try simp only [SB] at hb9
                      refine mv rfl rfl rfl ?_
                      refine eqi rfl rfl rfl rfl ?_
                      refine pk_t rfl rfl rfl rfl ?_
                      refine asg rfl rfl rfl ?_
                      refine wq_then ?_
                      refine wc_ret ?_
                      refine q_then_ret ?_
                      refine fin1 (v := .bool ((((peekS bs).toNat : Int) : Int) == (0 : Int))) rfl rfl ?_
                      refine ⟨?_, hS.drop⟩
                      rw [hQ]; rfl
                    · skip
                      try simp only [SB] at hb9
                      exfalso; omega
                  · skip
                    try simp only [SB] at hb8
                    exfalso; omega
                · skip
                  try simp only [SB] at hc3
                  have hl : lng n = 0 := lng_ok (by omega) (by omega)
                  obtain ⟨hD, hQ⟩ := peek_ok hn hl
                  refine wc_skip ?_
                  refine wq_then ?_
                  refine rg ?_
                  refine mv rfl rfl rfl ?_
                  refine cv cf9 hS rfl rfl rfl rfl rfl (sp_mooringref15_ParseHead (a) (n) (cap) (bs) _ (by first | rfl | omega | (simp; omega) | (simp; done)) (by omega) (hc.st hS) (by omega) (by omega)) ?_
                  intro w hS
                  refine mv rfl rfl rfl ?_
                  refine ext rfl rfl rfl rfl ?_
                  refine ext rfl rfl rfl rfl ?_
                  refine asg rfl rfl rfl ?_
                  refine asg rfl rfl rfl ?_
                  refine wq_then ?_
                  refine rg ?_
                  refine mv rfl rfl rfl ?_
                  refine mv rfl rfl rfl ?_
                  refine spl 75 rfl (fun hb10 => ?_) (fun hb10 => ?_)
                  · skip
                    try simp only [SB] at hb10
                    refine mv rfl rfl rfl ?_
                    refine mv rfl rfl rfl ?_
                    refine eqi rfl rfl rfl rfl ?_
                    refine pk_t rfl rfl rfl rfl ?_
                    refine mv rfl rfl rfl ?_
                    refine spl 80 rfl (fun hb11 => ?_) (fun hb11 => ?_)
                    · skip
                      try simp only [SB] at hb11
                      refine mv rfl rfl rfl ?_
                      refine mv rfl rfl rfl ?_
                      refine eqi rfl rfl rfl rfl ?_
                      refine pk_t rfl rfl rfl rfl ?_
                      refine asg rfl rfl rfl ?_
                      refine wq_then ?_
                      refine wc_ret ?_
                      refine fin1 (v := .bool ((((peekS bs).toNat : Int) : Int) == ((headS2 bs).toNat : Int))) rfl rfl ?_
                      refine ⟨?_, hS.drop⟩
                      rw [hQ]; simp
                    · skip
                      try simp only [SB] at hb11
                      exfalso; omega
                  · skip
                    try simp only [SB] at hb10
                    exfalso; omega
          · skip
            try simp only [SB] at hb4
            refine mv rfl rfl rfl ?_
            refine gtr rfl rfl rfl rfl ?_
            refine pk_f rfl rfl rfl rfl ?_
            refine mv rfl rfl rfl ?_
            refine spl 46 rfl (fun hb12 => ?_) (fun hb12 => ?_)
            · skip
              try simp only [SB] at hb12
              refine mv rfl rfl rfl ?_
              refine nei rfl rfl rfl rfl ?_
              refine pk_t rfl rfl rfl rfl ?_
              refine pk_f rfl rfl rfl rfl ?_
              refine wq_then ?_
              refine wc_if rfl (fun hc4 => ?_) (fun hc4 => ?_)
              · skip
                try simp only [SB] at hc4
                refine rg ?_
                refine asg rfl rfl rfl ?_
                refine wq_then ?_
                refine wc_ret ?_
                refine q_then_ret ?_
                refine fin1 (v := .bool (false)) rfl rfl ?_
                exfalso; omega
              · skip
                try simp only [SB] at hc4
                refine wc_skip ?_
                refine wq_then ?_
                refine wc_seq ?_
                refine rg ?_
                refine mv rfl rfl rfl ?_
                refine lens Tryd.underlying22 rfl rfl rfl ?_
                refine lss rfl rfl rfl rfl ?_
                refine mv rfl rfl rfl ?_
                refine spl 54 rfl (fun hb13 => ?_) (fun hb13 => ?_)
                · skip
                  try simp only [SB] at hb13
                  have hl : lng n ≠ 0 := lng_bad (by omega)
                  obtain ⟨hD, hQ⟩ := peek_bad hn hl
                  refine no rfl rfl ?_
                  refine no rfl rfl ?_
                  refine no rfl rfl ?_
                  refine pk_t rfl rfl rfl rfl ?_
                  refine wq_then ?_
                  refine wc_if_t rfl ?_
                  refine rg ?_
                  refine mv rfl rfl rfl ?_
                  refine notb rfl rfl rfl ?_
                  refine mv rfl rfl rfl ?_
                  refine spl 61 rfl (fun hb14 => ?_) (fun hb14 => ?_)
                  · skip
                    try simp only [SB] at hb14
                    refine mv rfl rfl rfl ?_
                    refine eqi rfl rfl rfl rfl ?_
                    refine pk_t rfl rfl rfl rfl ?_
                    refine mv rfl rfl rfl ?_
                    refine spl 65 rfl (fun hb15 => ?_) (fun hb15 => ?_)
                    · skip
                      try simp only [SB] at hb15
                      refine mv rfl rfl rfl ?_
                      refine eqi rfl rfl rfl rfl ?_
                      refine pk_t rfl rfl rfl rfl ?_
                      refine asg rfl rfl rfl ?_
                      refine wq_then ?_
                      refine wc_ret ?_
                      refine q_then_ret ?_
                      refine fin1 (v := .bool ((((peekS bs).toNat : Int) : Int) == (0 : Int))) rfl rfl ?_
                      refine ⟨?_, hS.drop⟩
                      rw [hQ]; rfl
                    · skip
                      try simp only [SB] at hb15
                      exfalso; omega
                  · skip
                    try simp only [SB] at hb14
                    exfalso; omega
                · skip
                  try simp only [SB] at hb13
                  refine mv rfl rfl rfl ?_
                  refine lens Tryd.underlying22 rfl rfl rfl ?_
                  refine gtr rfl rfl rfl rfl ?_
                  refine pk_f rfl rfl rfl rfl ?_
                  refine wq_then ?_
                  refine wc_if rfl (fun hc5 => ?_) (fun hc5 => ?_)
                  · skip
                    try simp only [SB] at hc5
                    have hl : lng n ≠ 0 := lng_bad (by omega)
                    obtain ⟨hD, hQ⟩ := peek_bad hn hl
                    refine rg ?_
                    refine mv rfl rfl rfl ?_
                    refine notb rfl rfl rfl ?_
                    refine mv rfl rfl rfl ?_
                    refine spl 61 rfl (fun hb16 => ?_) (fun hb16 => ?_)
                    · skip
                      try simp only [SB] at hb16
                      refine mv rfl rfl rfl ?_
                      refine eqi rfl rfl rfl rfl ?_
                      refine pk_t rfl rfl rfl rfl ?_
                      refine mv rfl rfl rfl ?_
                      refine spl 65 rfl (fun hb17 => ?_) (fun hb17 => ?_)
                      · skip
                        try simp only [SB] at hb17
                        refine mv rfl rfl rfl ?_
                        refine eqi rfl rfl rfl rfl ?_
                        refine pk_t rfl rfl rfl rfl ?_
                        refine asg rfl rfl rfl ?_
                        refine wq_then ?_
                        refine wc_ret ?_
                        refine q_then_ret ?_
                        refine fin1 (v := .bool ((((peekS bs).toNat : Int) : Int) == (0 : Int))) rfl rfl ?_
                        refine ⟨?_, hS.drop⟩
                        rw [hQ]; rfl
                      · skip
                        try simp only [SB] at hb17
                        exfalso; omega
                    · skip
                      try simp only [SB] at hb16
                      exfalso; omega
                  · skip
                    try simp only [SB] at hc5
                    have hl : lng n = 0 := lng_ok (by omega) (by omega)
                    obtain ⟨hD, hQ⟩ := peek_ok hn hl
                    refine wc_skip ?_
                    refine wq_then ?_
                    refine rg ?_
                    refine mv rfl rfl rfl ?_
                    refine cv cf9 hS rfl rfl rfl rfl rfl (sp_mooringref15_ParseHead (a) (n) (cap) (bs) _ (by first | rfl | omega | (simp; omega) | (simp; done)) (by omega) (hc.st hS) (by omega) (by omega)) ?_
                    intro w hS
                    refine mv rfl rfl rfl ?_
                    refine ext rfl rfl rfl rfl ?_
                    refine ext rfl rfl rfl rfl ?_
                    refine asg rfl rfl rfl ?_
                    refine asg rfl rfl rfl ?_
                    refine wq_then ?_
                    refine rg ?_
                    refine mv rfl rfl rfl ?_
                    refine mv rfl rfl rfl ?_
                    refine spl 75 rfl (fun hb18 => ?_) (fun hb18 => ?_)
                    · skip
                      try simp only [SB] at hb18
                      refine mv rfl rfl rfl ?_
                      refine mv rfl rfl rfl ?_
                      refine eqi rfl rfl rfl rfl ?_
                      refine pk_t rfl rfl rfl rfl ?_
                      refine mv rfl rfl rfl ?_
                      refine spl 80 rfl (fun hb19 => ?_) (fun hb19 => ?_)
                      · skip
                        try simp only [SB] at hb19
                        refine mv rfl rfl rfl ?_
                        refine mv rfl rfl rfl ?_
                        refine eqi rfl rfl rfl rfl ?_
                        refine pk_t rfl rfl rfl rfl ?_
                        refine asg rfl rfl rfl ?_
                        refine wq_then ?_
                        refine wc_ret ?_
                        refine fin1 (v := .bool ((((peekS bs).toNat : Int) : Int) == ((headS2 bs).toNat : Int))) rfl rfl ?_
                        refine ⟨?_, hS.drop⟩
                        rw [hQ]; simp
                      · skip
                        try simp only [SB] at hb19
                        exfalso; omega
                    · skip
                      try simp only [SB] at hb18
                      exfalso; omega
            · skip
              try simp only [SB] at hb12
              refine no rfl rfl ?_
              refine no rfl rfl ?_
              refine pk_f rfl rfl rfl rfl ?_
              refine pk_f rfl rfl rfl rfl ?_
              refine wq_then ?_
              refine wc_if_f rfl ?_
              refine wc_skip ?_
              refine wq_then ?_
              refine wc_seq ?_
              refine rg ?_
              refine mv rfl rfl rfl ?_
              refine lens Tryd.underlying22 rfl rfl rfl ?_
              refine lss rfl rfl rfl rfl ?_
              refine mv rfl rfl rfl ?_
              refine spl 54 rfl (fun hb20 => ?_) (fun hb20 => ?_)
              · skip
                try simp only [SB] at hb20
                have hl : lng n ≠ 0 := lng_bad (by omega)
                obtain ⟨hD, hQ⟩ := peek_bad hn hl
                refine no rfl rfl ?_
                refine no rfl rfl ?_
                refine no rfl rfl ?_
                refine pk_t rfl rfl rfl rfl ?_
                refine wq_then ?_
                refine wc_if_t rfl ?_
                refine rg ?_
                refine mv rfl rfl rfl ?_
                refine notb rfl rfl rfl ?_
                refine mv rfl rfl rfl ?_
                refine spl 61 rfl (fun hb21 => ?_) (fun hb21 => ?_)
                · skip
                  try simp only [SB] at hb21
                  refine mv rfl rfl rfl ?_
                  refine eqi rfl rfl rfl rfl ?_
                  refine pk_t rfl rfl rfl rfl ?_
                  refine mv rfl rfl rfl ?_
                  refine spl 65 rfl (fun hb22 => ?_) (fun hb22 => ?_)
                  · skip
                    try simp only [SB] at hb22
                    refine mv rfl rfl rfl ?_
                    refine eqi rfl rfl rfl rfl ?_
                    refine pk_t rfl rfl rfl rfl ?_
                    refine asg rfl rfl rfl ?_
                    refine wq_then ?_
                    refine wc_ret ?_
                    refine q_then_ret ?_
                    refine fin1 (v := .bool ((((peekS bs).toNat : Int) : Int) == (0 : Int))) rfl rfl ?_
                    refine ⟨?_, hS.drop⟩
                    rw [hQ]; rfl
                  · skip
                    try simp only [SB] at hb22
                    exfalso; omega
                · skip
                  try simp only [SB] at hb21
                  exfalso; omega
              · skip
                try simp only [SB] at hb20
                refine mv rfl rfl rfl ?_
                refine lens Tryd.underlying22 rfl rfl rfl ?_
                refine gtr rfl rfl rfl rfl ?_
                refine pk_f rfl rfl rfl rfl ?_
                refine wq_then ?_
                refine wc_if rfl (fun hc6 => ?_) (fun hc6 => ?_)
                · skip
                  try simp only [SB] at hc6
                  have hl : lng n ≠ 0 := lng_bad (by omega)
                  obtain ⟨hD, hQ⟩ := peek_bad hn hl
                  refine rg ?_
                  refine mv rfl rfl rfl ?_
                  refine notb rfl rfl rfl ?_
                  refine mv rfl rfl rfl ?_
                  refine spl 61 rfl (fun hb23 => ?_) (fun hb23 => ?_)
                  · skip
                    try simp only [SB] at hb23
                    refine mv rfl rfl rfl ?_
                    refine eqi rfl rfl rfl rfl ?_
                    refine pk_t rfl rfl rfl rfl ?_
                    refine mv rfl rfl rfl ?_
                    refine spl 65 rfl (fun hb24 => ?_) (fun hb24 => ?_)
                    · skip
                      try simp only [SB] at hb24
                      refine mv rfl rfl rfl ?_
                      refine eqi rfl rfl rfl rfl ?_
                      refine pk_t rfl rfl rfl rfl ?_
                      refine asg rfl rfl rfl ?_
                      refine wq_then ?_
                      refine wc_ret ?_
                      refine q_then_ret ?_
                      refine fin1 (v := .bool ((((peekS bs).toNat : Int) : Int) == (0 : Int))) rfl rfl ?_
                      refine ⟨?_, hS.drop⟩
                      rw [hQ]; rfl
                    · skip
                      try simp only [SB] at hb24
                      exfalso; omega
                  · skip
                    try simp only [SB] at hb23
                    exfalso; omega
                · skip
                  try simp only [SB] at hc6
                  have hl : lng n = 0 := lng_ok (by omega) (by omega)
                  obtain ⟨hD, hQ⟩ := peek_ok hn hl
                  refine wc_skip ?_
                  refine wq_then ?_
                  refine rg ?_
                  refine mv rfl rfl rfl ?_
                  refine cv cf9 hS rfl rfl rfl rfl rfl (sp_mooringref15_ParseHead (a) (n) (cap) (bs) _ (by first | rfl | omega | (simp; omega) | (simp; done)) (by omega) (hc.st hS) (by omega) (by omega)) ?_
                  intro w hS
                  refine mv rfl rfl rfl ?_
                  refine ext rfl rfl rfl rfl ?_
                  refine ext rfl rfl rfl rfl ?_
                  refine asg rfl rfl rfl ?_
                  refine asg rfl rfl rfl ?_
                  refine wq_then ?_
                  refine rg ?_
                  refine mv rfl rfl rfl ?_
                  refine mv rfl rfl rfl ?_
                  refine spl 75 rfl (fun hb25 => ?_) (fun hb25 => ?_)
                  · skip
                    try simp only [SB] at hb25
                    refine mv rfl rfl rfl ?_
                    refine mv rfl rfl rfl ?_
                    refine eqi rfl rfl rfl rfl ?_
                    refine pk_t rfl rfl rfl rfl ?_
                    refine mv rfl rfl rfl ?_
                    refine spl 80 rfl (fun hb26 => ?_) (fun hb26 => ?_)
                    · skip
                      try simp only [SB] at hb26
                      refine mv rfl rfl rfl ?_
                      refine mv rfl rfl rfl ?_
                      refine eqi rfl rfl rfl rfl ?_
                      refine pk_t rfl rfl rfl rfl ?_
                      refine asg rfl rfl rfl ?_
                      refine wq_then ?_
                      refine wc_ret ?_
                      refine fin1 (v := .bool ((((peekS bs).toNat : Int) : Int) == ((headS2 bs).toNat : Int))) rfl rfl ?_
                      refine ⟨?_, hS.drop⟩
                      rw [hQ]; simp
                    · skip
                      try simp only [SB] at hb26
                      exfalso; omega
                  · skip
                    try simp only [SB] at hb25
                    exfalso; omega
      · skip
        try simp only [SB] at hb2
        refine no rfl rfl ?_
        refine no rfl rfl ?_
        refine no rfl rfl ?_
        refine no rfl rfl ?_
        refine pk_f rfl rfl rfl rfl ?_
        refine mv rfl rfl rfl ?_
        refine mv rfl rfl rfl ?_
        refine lss rfl rfl rfl rfl ?_
        refine mv rfl rfl rfl ?_
        refine spl 42 rfl (fun hb27 => ?_) (fun hb27 => ?_)
        · skip
          try simp only [SB] at hb27
          refine no rfl rfl ?_
          refine no rfl rfl ?_
          refine pk_t rfl rfl rfl rfl ?_
          refine mv rfl rfl rfl ?_
          refine mv rfl rfl rfl ?_
          refine nei rfl rfl rfl rfl ?_
          refine pk_t rfl rfl rfl rfl ?_
          refine pk_f rfl rfl rfl rfl ?_
          refine wq_then ?_
          refine wc_if rfl (fun hc7 => ?_) (fun hc7 => ?_)
          · skip
            try simp only [SB] at hc7
            refine rg ?_
            refine asg rfl rfl rfl ?_
            refine wq_then ?_
            refine wc_ret ?_
            refine q_then_ret ?_
            refine fin1 (v := .bool (false)) rfl rfl ?_
            exfalso; omega
          · skip
            try simp only [SB] at hc7
            refine wc_skip ?_
            refine wq_then ?_
            refine wc_seq ?_
            refine rg ?_
            refine mv rfl rfl rfl ?_
            refine lens Tryd.underlying22 rfl rfl rfl ?_
            refine lss rfl rfl rfl rfl ?_
            refine mv rfl rfl rfl ?_
            refine spl 54 rfl (fun hb28 => ?_) (fun hb28 => ?_)
            · skip
              try simp only [SB] at hb28
              have hl : lng n ≠ 0 := lng_bad (by omega)
              obtain ⟨hD, hQ⟩ := peek_bad hn hl
              refine no rfl rfl ?_
              refine no rfl rfl ?_
              refine no rfl rfl ?_
              refine pk_t rfl rfl rfl rfl ?_
              refine wq_then ?_
              refine wc_if_t rfl ?_
              refine rg ?_
              refine mv rfl rfl rfl ?_
              refine notb rfl rfl rfl ?_
              refine mv rfl rfl rfl ?_
              refine spl 61 rfl (fun hb29 => ?_) (fun hb29 => ?_)
              · skip
                try simp only [SB] at hb29
                refine mv rfl rfl rfl ?_
                refine eqi rfl rfl rfl rfl ?_
                refine pk_t rfl rfl rfl rfl ?_
                refine mv rfl rfl rfl ?_
                refine spl 65 rfl (fun hb30 => ?_) (fun hb30 => ?_)
                · skip
                  try simp only [SB] at hb30
                  refine mv rfl rfl rfl ?_
                  refine eqi rfl rfl rfl rfl ?_
                  refine pk_t rfl rfl rfl rfl ?_
                  refine asg rfl rfl rfl ?_
                  refine wq_then ?_
                  refine wc_ret ?_
                  refine q_then_ret ?_
                  refine fin1 (v := .bool ((((peekS bs).toNat : Int) : Int) == (0 : Int))) rfl rfl ?_
                  refine ⟨?_, hS.drop⟩
                  rw [hQ]; rfl
                · skip
                  try simp only [SB] at hb30
                  exfalso; omega
              · skip
                try simp only [SB] at hb29
                exfalso; omega
            · skip
              try simp only [SB] at hb28
              refine mv rfl rfl rfl ?_
              refine lens Tryd.underlying22 rfl rfl rfl ?_
              refine gtr rfl rfl rfl rfl ?_
              refine pk_f rfl rfl rfl rfl ?_
              refine wq_then ?_
              refine wc_if rfl (fun hc8 => ?_) (fun hc8 => ?_)
              · skip
                try simp only [SB] at hc8
                have hl : lng n ≠ 0 := lng_bad (by omega)
                obtain ⟨hD, hQ⟩ := peek_bad hn hl
                refine rg ?_
                refine mv rfl rfl rfl ?_
                refine notb rfl rfl rfl ?_
                refine mv rfl rfl rfl ?_
                refine spl 61 rfl (fun hb31 => ?_) (fun hb31 => ?_)
                · skip
                  try simp only [SB] at hb31
                  refine mv rfl rfl rfl ?_
                  refine eqi rfl rfl rfl rfl ?_
                  refine pk_t rfl rfl rfl rfl ?_
                  refine mv rfl rfl rfl ?_
                  refine spl 65 rfl (fun hb32 => ?_) (fun hb32 => ?_)
                  · skip
                    try simp only [SB] at hb32
                    refine mv rfl rfl rfl ?_
                    refine eqi rfl rfl rfl rfl ?_
                    refine pk_t rfl rfl rfl rfl ?_
                    refine asg rfl rfl rfl ?_
                    refine wq_then ?_
                    refine wc_ret ?_
                    refine q_then_ret ?_
                    refine fin1 (v := .bool ((((peekS bs).toNat : Int) : Int) == (0 : Int))) rfl rfl ?_
                    refine ⟨?_, hS.drop⟩
                    rw [hQ]; rfl
                  · skip
                    try simp only [SB] at hb32
                    exfalso; omega
                · skip
                  try simp only [SB] at hb31
                  exfalso; omega
              · skip
                try simp only [SB] at hc8
                have hl : lng n = 0 := lng_ok (by omega) (by omega)
                obtain ⟨hD, hQ⟩ := peek_ok hn hl
                refine wc_skip ?_
                refine wq_then ?_
                refine rg ?_
                refine mv rfl rfl rfl ?_
                refine cv cf9 hS rfl rfl rfl rfl rfl (sp_mooringref15_ParseHead (a) (n) (cap) (bs) _ (by first | rfl | omega | (simp; omega) | (simp; done)) (by omega) (hc.st hS) (by omega) (by omega)) ?_
                intro w hS
                refine mv rfl rfl rfl ?_
                refine ext rfl rfl rfl rfl ?_
                refine ext rfl rfl rfl rfl ?_
                refine asg rfl rfl rfl ?_
                refine asg rfl rfl rfl ?_
                refine wq_then ?_
                refine rg ?_
                refine mv rfl rfl rfl ?_
                refine mv rfl rfl rfl ?_
                refine spl 75 rfl (fun hb33 => ?_) (fun hb33 => ?_)
                · skip
                  try simp only [SB] at hb33
                  refine mv rfl rfl rfl ?_
                  refine mv rfl rfl rfl ?_
                  refine eqi rfl rfl rfl rfl ?_
                  refine pk_t rfl rfl rfl rfl ?_
                  refine mv rfl rfl rfl ?_
                  refine spl 80 rfl (fun hb34 => ?_) (fun hb34 => ?_)
                  · skip
                    try simp only [SB] at hb34
                    refine mv rfl rfl rfl ?_
                    refine mv rfl rfl rfl ?_
                    refine eqi rfl rfl rfl rfl ?_
                    refine pk_t rfl rfl rfl rfl ?_
                    refine asg rfl rfl rfl ?_
                    refine wq_then ?_
                    refine wc_ret ?_
                    refine fin1 (v := .bool ((((peekS bs).toNat : Int) : Int) == ((headS2 bs).toNat : Int))) rfl rfl ?_
                    refine ⟨?_, hS.drop⟩
                    rw [hQ]; simp
                  · skip
                    try simp only [SB] at hb34
                    exfalso; omega
                · skip
                  try simp only [SB] at hb33
                  exfalso; omega
        · skip
          try simp only [SB] at hb27
          refine mv rfl rfl rfl ?_
          refine gtr rfl rfl rfl rfl ?_
          refine pk_f rfl rfl rfl rfl ?_
          refine mv rfl rfl rfl ?_
          refine spl 46 rfl (fun hb35 => ?_) (fun hb35 => ?_)
          · skip
            try simp only [SB] at hb35
            refine mv rfl rfl rfl ?_
            refine nei rfl rfl rfl rfl ?_
            refine pk_t rfl rfl rfl rfl ?_
            refine pk_f rfl rfl rfl rfl ?_
            refine wq_then ?_
            refine wc_if rfl (fun hc9 => ?_) (fun hc9 => ?_)
            · skip
              try simp only [SB] at hc9
              refine rg ?_
              refine asg rfl rfl rfl ?_
              refine wq_then ?_
              refine wc_ret ?_
              refine q_then_ret ?_
              refine fin1 (v := .bool (false)) rfl rfl ?_
              exfalso; omega
            · skip
              try simp only [SB] at hc9
              refine wc_skip ?_
              refine wq_then ?_
              refine wc_seq ?_
              refine rg ?_
              refine mv rfl rfl rfl ?_
              refine lens Tryd.underlying22 rfl rfl rfl ?_
              refine lss rfl rfl rfl rfl ?_
              refine mv rfl rfl rfl ?_
              refine spl 54 rfl (fun hb36 => ?_) (fun hb36 => ?_)
              · skip
                try simp only [SB] at hb36
                have hl : lng n ≠ 0 := lng_bad (by omega)
                obtain ⟨hD, hQ⟩ := peek_bad hn hl
                refine no rfl rfl ?_
                refine no rfl rfl ?_
                refine no rfl rfl ?_
                refine pk_t rfl rfl rfl rfl ?_
                refine wq_then ?_
                refine wc_if_t rfl ?_
                refine rg ?_
                refine mv rfl rfl rfl ?_
                refine notb rfl rfl rfl ?_
                refine mv rfl rfl rfl ?_
                refine spl 61 rfl (fun hb37 => ?_) (fun hb37 => ?_)
                · skip
                  try simp only [SB] at hb37
                  refine mv rfl rfl rfl ?_
                  refine eqi rfl rfl rfl rfl ?_
                  refine pk_t rfl rfl rfl rfl ?_
                  refine mv rfl rfl rfl ?_
                  refine spl 65 rfl (fun hb38 => ?_) (fun hb38 => ?_)
                  · skip
                    try simp only [SB] at hb38
                    refine mv rfl rfl rfl ?_
                    refine eqi rfl rfl rfl rfl ?_
                    refine pk_t rfl rfl rfl rfl ?_
                    refine asg rfl rfl rfl ?_
                    refine wq_then ?_
                    refine wc_ret ?_
                    refine q_then_ret ?_
                    refine fin1 (v := .bool ((((peekS bs).toNat : Int) : Int) == (0 : Int))) rfl rfl ?_
                    refine ⟨?_, hS.drop⟩
                    rw [hQ]; rfl
                  · skip
                    try simp only [SB] at hb38
                    exfalso; omega
                · skip
                  try simp only [SB] at hb37
                  exfalso; omega
              · skip
                try simp only [SB] at hb36
                refine mv rfl rfl rfl ?_
                refine lens Tryd.underlying22 rfl rfl rfl ?_
                refine gtr rfl rfl rfl rfl ?_
                refine pk_f rfl rfl rfl rfl ?_
                refine wq_then ?_
                refine wc_if rfl (fun hc10 => ?_) (fun hc10 => ?_)
                · skip
                  try simp only [SB] at hc10
                  have hl : lng n ≠ 0 := lng_bad (by omega)
                  obtain ⟨hD, hQ⟩ := peek_bad hn hl
                  refine rg ?_
                  refine mv rfl rfl rfl ?_
                  refine notb rfl rfl rfl ?_
                  refine mv rfl rfl rfl ?_
                  refine spl 61 rfl (fun hb39 => ?_) (fun hb39 => ?_)
                  · skip
                    try simp only [SB] at hb39
                    refine mv rfl rfl rfl ?_
                    refine eqi rfl rfl rfl rfl ?_
                    refine pk_t rfl rfl rfl rfl ?_
                    refine mv rfl rfl rfl ?_
                    refine spl 65 rfl (fun hb40 => ?_) (fun hb40 => ?_)
                    · skip
                      try simp only [SB] at hb40
                      refine mv rfl rfl rfl ?_
                      refine eqi rfl rfl rfl rfl ?_
                      refine pk_t rfl rfl rfl rfl ?_
                      refine asg rfl rfl rfl ?_
                      refine wq_then ?_
                      refine wc_ret ?_
                      refine q_then_ret ?_
                      refine fin1 (v := .bool ((((peekS bs).toNat : Int) : Int) == (0 : Int))) rfl rfl ?_
                      refine ⟨?_, hS.drop⟩
                      rw [hQ]; rfl
                    · skip
                      try simp only [SB] at hb40
                      exfalso; omega
                  · skip
                    try simp only [SB] at hb39
                    exfalso; omega
                · skip
                  try simp only [SB] at hc10
                  have hl : lng n = 0 := lng_ok (by omega) (by omega)
                  obtain ⟨hD, hQ⟩ := peek_ok hn hl
                  refine wc_skip ?_
                  refine wq_then ?_
                  refine rg ?_
                  refine mv rfl rfl rfl ?_
                  refine cv cf9 hS rfl rfl rfl rfl rfl (sp_mooringref15_ParseHead (a) (n) (cap) (bs) _ (by first | rfl | omega | (simp; omega) | (simp; done)) (by omega) (hc.st hS) (by omega) (by omega)) ?_
                  intro w hS
                  refine mv rfl rfl rfl ?_
                  refine ext rfl rfl rfl rfl ?_
                  refine ext rfl rfl rfl rfl ?_
                  refine asg rfl rfl rfl ?_
                  refine asg rfl rfl rfl ?_
                  refine wq_then ?_
                  refine rg ?_
                  refine mv rfl rfl rfl ?_
                  refine mv rfl rfl rfl ?_
                  refine spl 75 rfl (fun hb41 => ?_) (fun hb41 => ?_)
                  · skip
                    try simp only [SB] at hb41
                    refine mv rfl rfl rfl ?_
                    refine mv rfl rfl rfl ?_
                    refine eqi rfl rfl rfl rfl ?_
                    refine pk_t rfl rfl rfl rfl ?_
                    refine mv rfl rfl rfl ?_
                    refine spl 80 rfl (fun hb42 => ?_) (fun hb42 => ?_)
                    · skip
                      try simp only [SB] at hb42
                      refine mv rfl rfl rfl ?_
                      refine mv rfl rfl rfl ?_
                      refine eqi rfl rfl rfl rfl ?_
                      refine pk_t rfl rfl rfl rfl ?_
                      refine asg rfl rfl rfl ?_
                      refine wq_then ?_
                      refine wc_ret ?_
                      refine fin1 (v := .bool ((((peekS bs).toNat : Int) : Int) == ((headS2 bs).toNat : Int))) rfl rfl ?_
                      refine ⟨?_, hS.drop⟩
                      rw [hQ]; simp
                    · skip
                      try simp only [SB] at hb42
                      exfalso; omega
                  · skip
                    try simp only [SB] at hb41
                    exfalso; omega
          · skip
            try simp only [SB] at hb35
            refine no rfl rfl ?_
            refine no rfl rfl ?_
            refine pk_f rfl rfl rfl rfl ?_
            refine pk_f rfl rfl rfl rfl ?_
            refine wq_then ?_
            refine wc_if_f rfl ?_
            refine wc_skip ?_
            refine wq_then ?_
            refine wc_seq ?_
            refine rg ?_
            refine mv rfl rfl rfl ?_
            refine lens Tryd.underlying22 rfl rfl rfl ?_
            refine lss rfl rfl rfl rfl ?_
            refine mv rfl rfl rfl ?_
            refine spl 54 rfl (fun hb43 => ?_) (fun hb43 => ?_)
            · skip
              try simp only [SB] at hb43
              have hl : lng n ≠ 0 := lng_bad (by omega)
              obtain ⟨hD, hQ⟩ := peek_bad hn hl
              refine no rfl rfl ?_
              refine no rfl rfl ?_
              refine no rfl rfl ?_
              refine pk_t rfl rfl rfl rfl ?_
              refine wq_then ?_
              refine wc_if_t rfl ?_
              refine rg ?_
              refine mv rfl rfl rfl ?_
              refine notb rfl rfl rfl ?_
              refine mv rfl rfl rfl ?_
              refine spl 61 rfl (fun hb44 => ?_) (fun hb44 => ?_)
              · skip
                try simp only [SB] at hb44
                refine mv rfl rfl rfl ?_
                refine eqi rfl rfl rfl rfl ?_
                refine pk_t rfl rfl rfl rfl ?_
                refine mv rfl rfl rfl ?_
                refine spl 65 rfl (fun hb45 => ?_) (fun hb45 => ?_)
                · skip
                  try simp only [SB] at hb45
                  refine mv rfl rfl rfl ?_
                  refine eqi rfl rfl rfl rfl ?_
                  refine pk_t rfl rfl rfl rfl ?_
                  refine asg rfl rfl rfl ?_
                  refine wq_then ?_
                  refine wc_ret ?_
                  refine q_then_ret ?_
                  refine fin1 (v := .bool ((((peekS bs).toNat : Int) : Int) == (0 : Int))) rfl rfl ?_
                  refine ⟨?_, hS.drop⟩
                  rw [hQ]; rfl
                · skip
                  try simp only [SB] at hb45
                  exfalso; omega
              · skip
                try simp only [SB] at hb44
                exfalso; omega
            · skip
              try simp only [SB] at hb43
              refine mv rfl rfl rfl ?_
              refine lens Tryd.underlying22 rfl rfl rfl ?_
              refine gtr rfl rfl rfl rfl ?_
              refine pk_f rfl rfl rfl rfl ?_
              refine wq_then ?_
              refine wc_if rfl (fun hc11 => ?_) (fun hc11 => ?_)
              · skip
                try simp only [SB] at hc11
                have hl : lng n ≠ 0 := lng_bad (by omega)
                obtain ⟨hD, hQ⟩ := peek_bad hn hl
                refine rg ?_
                refine mv rfl rfl rfl ?_
                refine notb rfl rfl rfl ?_
                refine mv rfl rfl rfl ?_
                refine spl 61 rfl (fun hb46 => ?_) (fun hb46 => ?_)
                · skip
                  try simp only [SB] at hb46
                  refine mv rfl rfl rfl ?_
                  refine eqi rfl rfl rfl rfl ?_
                  refine pk_t rfl rfl rfl rfl ?_
                  refine mv rfl rfl rfl ?_
                  refine spl 65 rfl (fun hb47 => ?_) (fun hb47 => ?_)
                  · skip
                    try simp only [SB] at hb47
                    refine mv rfl rfl rfl ?_
                    refine eqi rfl rfl rfl rfl ?_
                    refine pk_t rfl rfl rfl rfl ?_
                    refine asg rfl rfl rfl ?_
                    refine wq_then ?_
                    refine wc_ret ?_
                    refine q_then_ret ?_
                    refine fin1 (v := .bool ((((peekS bs).toNat : Int) : Int) == (0 : Int))) rfl rfl ?_
                    refine ⟨?_, hS.drop⟩
                    rw [hQ]; rfl
                  · skip
                    try simp only [SB] at hb47
                    exfalso; omega
                · skip
                  try simp only [SB] at hb46
                  exfalso; omega
              · skip
                try simp only [SB] at hc11
                have hl : lng n = 0 := lng_ok (by omega) (by omega)
                obtain ⟨hD, hQ⟩ := peek_ok hn hl
                refine wc_skip ?_
                refine wq_then ?_
                refine rg ?_
                refine mv rfl rfl rfl ?_
                refine cv cf9 hS rfl rfl rfl rfl rfl (sp_mooringref15_ParseHead (a) (n) (cap) (bs) _ (by first | rfl | omega | (simp; omega) | (simp; done)) (by omega) (hc.st hS) (by omega) (by omega)) ?_
                intro w hS
                refine mv rfl rfl rfl ?_
                refine ext rfl rfl rfl rfl ?_
                refine ext rfl rfl rfl rfl ?_
                refine asg rfl rfl rfl ?_
                refine asg rfl rfl rfl ?_
                refine wq_then ?_
                refine rg ?_
                refine mv rfl rfl rfl ?_
                refine mv rfl rfl rfl ?_
                refine spl 75 rfl (fun hb48 => ?_) (fun hb48 => ?_)
                · skip
                  try simp only [SB] at hb48
                  refine mv rfl rfl rfl ?_
                  refine mv rfl rfl rfl ?_
                  refine eqi rfl rfl rfl rfl ?_
                  refine pk_t rfl rfl rfl rfl ?_
                  refine mv rfl rfl rfl ?_
                  refine spl 80 rfl (fun hb49 => ?_) (fun hb49 => ?_)
                  · skip
                    try simp only [SB] at hb49
                    refine mv rfl rfl rfl ?_
                    refine mv rfl rfl rfl ?_
                    refine eqi rfl rfl rfl rfl ?_
                    refine pk_t rfl rfl rfl rfl ?_
                    refine asg rfl rfl rfl ?_
                    refine wq_then ?_
                    refine wc_ret ?_
                    refine fin1 (v := .bool ((((peekS bs).toNat : Int) : Int) == ((headS2 bs).toNat : Int))) rfl rfl ?_
                    refine ⟨?_, hS.drop⟩
                    rw [hQ]; simp
                  · skip
                    try simp only [SB] at hb49
                    exfalso; omega
                · skip
                  try simp only [SB] at hb48
                  exfalso; omega
    · skip
      try simp only [SB] at hb1
      refine no rfl rfl ?_
      refine no rfl rfl ?_
      refine pk_f rfl rfl rfl rfl ?_
      refine mv rfl rfl rfl ?_
      refine no rfl rfl ?_
      refine no rfl rfl ?_
      refine no rfl rfl ?_
      refine no rfl rfl ?_
      refine pk_f rfl rfl rfl rfl ?_
      refine mv rfl rfl rfl ?_
      refine mv rfl rfl rfl ?_
      refine lss rfl rfl rfl rfl ?_
      refine mv rfl rfl rfl ?_
      refine spl 42 rfl (fun hb50 => ?_) (fun hb50 => ?_)
      · skip
        try simp only [SB] at hb50
        refine no rfl rfl ?_
        refine no rfl rfl ?_
        refine pk_t rfl rfl rfl rfl ?_
        refine mv rfl rfl rfl ?_
        refine mv rfl rfl rfl ?_
        refine nei rfl rfl rfl rfl ?_
        refine pk_t rfl rfl rfl rfl ?_
        refine pk_f rfl rfl rfl rfl ?_
        refine wq_then ?_
        refine wc_if rfl (fun hc12 => ?_) (fun hc12 => ?_)
        · skip
          try simp only [SB] at hc12
          refine rg ?_
          refine asg rfl rfl rfl ?_
          refine wq_then ?_
          refine wc_ret ?_
          refine q_then_ret ?_
          refine fin1 (v := .bool (false)) rfl rfl ?_
          exfalso; omega
        · skip
          try simp only [SB] at hc12
          refine wc_skip ?_
          refine wq_then ?_
          refine wc_seq ?_
          refine rg ?_
          refine mv rfl rfl rfl ?_
          refine lens Tryd.underlying22 rfl rfl rfl ?_
          refine lss rfl rfl rfl rfl ?_
          refine mv rfl rfl rfl ?_
          refine spl 54 rfl (fun hb51 => ?_) (fun hb51 => ?_)
          · skip
            try simp only [SB] at hb51
            have hl : lng n ≠ 0 := lng_bad (by omega)
            obtain ⟨hD, hQ⟩ := peek_bad hn hl
            refine no rfl rfl ?_
            refine no rfl rfl ?_
            refine no rfl rfl ?_
            refine pk_t rfl rfl rfl rfl ?_
            refine wq_then ?_
            refine wc_if_t rfl ?_
            refine rg ?_
            refine mv rfl rfl rfl ?_
            refine notb rfl rfl rfl ?_
            refine mv rfl rfl rfl ?_
            refine spl 61 rfl (fun hb52 => ?_) (fun hb52 => ?_)
            · skip
              try simp only [SB] at hb52
              refine mv rfl rfl rfl ?_
              refine eqi rfl rfl rfl rfl ?_
              refine pk_t rfl rfl rfl rfl ?_
              refine mv rfl rfl rfl ?_
              refine spl 65 rfl (fun hb53 => ?_) (fun hb53 => ?_)
              · skip
                try simp only [SB] at hb53
                refine mv rfl rfl rfl ?_
                refine eqi rfl rfl rfl rfl ?_
                refine pk_t rfl rfl rfl rfl ?_
                refine asg rfl rfl rfl ?_
                refine wq_then ?_
                refine wc_ret ?_
                refine q_then_ret ?_
                refine fin1 (v := .bool ((((peekS bs).toNat : Int) : Int) == (0 : Int))) rfl rfl ?_
                refine ⟨?_, hS.drop⟩
                rw [hQ]; rfl
              · skip
                try simp only [SB] at hb53
                exfalso; omega
            · skip
              try simp only [SB] at hb52
              exfalso; omega
          · skip
            try simp only [SB] at hb51
            refine mv rfl rfl rfl ?_
            refine lens Tryd.underlying22 rfl rfl rfl ?_
            refine gtr rfl rfl rfl rfl ?_
            refine pk_f rfl rfl rfl rfl ?_
            refine wq_then ?_
            refine wc_if rfl (fun hc13 => ?_) (fun hc13 => ?_)
            · skip
              try simp only [SB] at hc13
              have hl : lng n ≠ 0 := lng_bad (by omega)
              obtain ⟨hD, hQ⟩ := peek_bad hn hl
              refine rg ?_
              refine mv rfl rfl rfl ?_
              refine notb rfl rfl rfl ?_
              refine mv rfl rfl rfl ?_
              refine spl 61 rfl (fun hb54 => ?_) (fun hb54 => ?_)
              · skip
                try simp only [SB] at hb54
                refine mv rfl rfl rfl ?_
                refine eqi rfl rfl rfl rfl ?_
                refine pk_t rfl rfl rfl rfl ?_
                refine mv rfl rfl rfl ?_
                refine spl 65 rfl (fun hb55 => ?_) (fun hb55 => ?_)
                · skip
                  try simp only [SB] at hb55
                  refine mv rfl rfl rfl ?_
                  refine eqi rfl rfl rfl rfl ?_
                  refine pk_t rfl rfl rfl rfl ?_
                  refine asg rfl rfl rfl ?_
                  refine wq_then ?_
                  refine wc_ret ?_
                  refine q_then_ret ?_
                  refine fin1 (v := .bool ((((peekS bs).toNat : Int) : Int) == (0 : Int))) rfl rfl ?_
                  refine ⟨?_, hS.drop⟩
                  rw [hQ]; rfl
                · skip
                  try simp only [SB] at hb55
                  exfalso; omega
              · skip
                try simp only [SB] at hb54
                exfalso; omega
            · skip
              try simp only [SB] at hc13
              have hl : lng n = 0 := lng_ok (by omega) (by omega)
              obtain ⟨hD, hQ⟩ := peek_ok hn hl
              refine wc_skip ?_
              refine wq_then ?_
              refine rg ?_
              refine mv rfl rfl rfl ?_
              refine cv cf9 hS rfl rfl rfl rfl rfl (sp_mooringref15_ParseHead (a) (n) (cap) (bs) _ (by first | rfl | omega | (simp; omega) | (simp; done)) (by omega) (hc.st hS) (by omega) (by omega)) ?_
              intro w hS
              refine mv rfl rfl rfl ?_
              refine ext rfl rfl rfl rfl ?_
              refine ext rfl rfl rfl rfl ?_
              refine asg rfl rfl rfl ?_
              refine asg rfl rfl rfl ?_
              refine wq_then ?_
              refine rg ?_
              refine mv rfl rfl rfl ?_
              refine mv rfl rfl rfl ?_
              refine spl 75 rfl (fun hb56 => ?_) (fun hb56 => ?_)
              · skip
                try simp only [SB] at hb56
                refine mv rfl rfl rfl ?_
                refine mv rfl rfl rfl ?_
                refine eqi rfl rfl rfl rfl ?_
                refine pk_t rfl rfl rfl rfl ?_
                refine mv rfl rfl rfl ?_
                refine spl 80 rfl (fun hb57 => ?_) (fun hb57 => ?_)
                · skip
                  try simp only [SB] at hb57
                  refine mv rfl rfl rfl ?_
                  refine mv rfl rfl rfl ?_
                  refine eqi rfl rfl rfl rfl ?_
                  refine pk_t rfl rfl rfl rfl ?_
                  refine asg rfl rfl rfl ?_
                  refine wq_then ?_
                  refine wc_ret ?_
                  refine fin1 (v := .bool ((((peekS bs).toNat : Int) : Int) == ((headS2 bs).toNat : Int))) rfl rfl ?_
                  refine ⟨?_, hS.drop⟩
                  rw [hQ]; simp
                · skip
                  try simp only [SB] at hb57
                  exfalso; omega
              · skip
                try simp only [SB] at hb56
                exfalso; omega
      · skip
        try simp only [SB] at hb50
        refine mv rfl rfl rfl ?_
        refine gtr rfl rfl rfl rfl ?_
        refine pk_f rfl rfl rfl rfl ?_
        refine mv rfl rfl rfl ?_
        refine spl 46 rfl (fun hb58 => ?_) (fun hb58 => ?_)
        · skip
          try simp only [SB] at hb58
          refine mv rfl rfl rfl ?_
          refine nei rfl rfl rfl rfl ?_
          refine pk_t rfl rfl rfl rfl ?_
          refine pk_f rfl rfl rfl rfl ?_
          refine wq_then ?_
          refine wc_if rfl (fun hc14 => ?_) (fun hc14 => ?_)
          · skip
            try simp only [SB] at hc14
            refine rg ?_
            refine asg rfl rfl rfl ?_
            refine wq_then ?_
            refine wc_ret ?_
            refine q_then_ret ?_
            refine fin1 (v := .bool (false)) rfl rfl ?_
            exfalso; omega
          · skip
            try simp only [SB] at hc14
            refine wc_skip ?_
            refine wq_then ?_
            refine wc_seq ?_
            refine rg ?_
            refine mv rfl rfl rfl ?_
            refine lens Tryd.underlying22 rfl rfl rfl ?_
            refine lss rfl rfl rfl rfl ?_
            refine mv rfl rfl rfl ?_
            refine spl 54 rfl (fun hb59 => ?_) (fun hb59 => ?_)
            · skip
              try simp only [SB] at hb59
              have hl : lng n ≠ 0 := lng_bad (by omega)
              obtain ⟨hD, hQ⟩ := peek_bad hn hl
              refine no rfl rfl ?_
              refine no rfl rfl ?_
              refine no rfl rfl ?_
              refine pk_t rfl rfl rfl rfl ?_
              refine wq_then ?_
              refine wc_if_t rfl ?_
              refine rg ?_
              refine mv rfl rfl rfl ?_
              refine notb rfl rfl rfl ?_
              refine mv rfl rfl rfl ?_
              refine spl 61 rfl (fun hb60 => ?_) (fun hb60 => ?_)
              · skip
                try simp only [SB] at hb60
                refine mv rfl rfl rfl ?_
                refine eqi rfl rfl rfl rfl ?_
                refine pk_t rfl rfl rfl rfl ?_
                refine mv rfl rfl rfl ?_
                refine spl 65 rfl (fun hb61 => ?_) (fun hb61 => ?_)
                · skip
                  try simp only [SB] at hb61
                  refine mv rfl rfl rfl ?_
                  refine eqi rfl rfl rfl rfl ?_
                  refine pk_t rfl rfl rfl rfl ?_
                  refine asg rfl rfl rfl ?_
                  refine wq_then ?_
                  refine wc_ret ?_
                  refine q_then_ret ?_
                  refine fin1 (v := .bool ((((peekS bs).toNat : Int) : Int) == (0 : Int))) rfl rfl ?_
                  refine ⟨?_, hS.drop⟩
                  rw [hQ]; rfl
                · skip
                  try simp only [SB] at hb61
                  exfalso; omega
              · skip
                try simp only [SB] at hb60
                exfalso; omega
            · skip
              try simp only [SB] at hb59
              refine mv rfl rfl rfl ?_
              refine lens Tryd.underlying22 rfl rfl rfl ?_
              refine gtr rfl rfl rfl rfl ?_
              refine pk_f rfl rfl rfl rfl ?_
              refine wq_then ?_
              refine wc_if rfl (fun hc15 => ?_) (fun hc15 => ?_)
              · skip
                try simp only [SB] at hc15
                have hl : lng n ≠ 0 := lng_bad (by omega)
                obtain ⟨hD, hQ⟩ := peek_bad hn hl
                refine rg ?_
                refine mv rfl rfl rfl ?_
                refine notb rfl rfl rfl ?_
                refine mv rfl rfl rfl ?_
                refine spl 61 rfl (fun hb62 => ?_) (fun hb62 => ?_)
                · skip
                  try simp only [SB] at hb62
                  refine mv rfl rfl rfl ?_
                  refine eqi rfl rfl rfl rfl ?_
                  refine pk_t rfl rfl rfl rfl ?_
                  refine mv rfl rfl rfl ?_
                  refine spl 65 rfl (fun hb63 => ?_) (fun hb63 => ?_)
                  · skip
                    try simp only [SB] at hb63
                    refine mv rfl rfl rfl ?_
                    refine eqi rfl rfl rfl rfl ?_
                    refine pk_t rfl rfl rfl rfl ?_
                    refine asg rfl rfl rfl ?_
                    refine wq_then ?_
                    refine wc_ret ?_
                    refine q_then_ret ?_
                    refine fin1 (v := .bool ((((peekS bs).toNat : Int) : Int) == (0 : Int))) rfl rfl ?_
                    refine ⟨?_, hS.drop⟩
                    rw [hQ]; rfl
                  · skip
                    try simp only [SB] at hb63
                    exfalso; omega
                · skip
                  try simp only [SB] at hb62
                  exfalso; omega
              · skip
                try simp only [SB] at hc15
                have hl : lng n = 0 := lng_ok (by omega) (by omega)
                obtain ⟨hD, hQ⟩ := peek_ok hn hl
                refine wc_skip ?_
                refine wq_then ?_
                refine rg ?_
                refine mv rfl rfl rfl ?_
                refine cv cf9 hS rfl rfl rfl rfl rfl (sp_mooringref15_ParseHead (a) (n) (cap) (bs) _ (by first | rfl | omega | (simp; omega) | (simp; done)) (by omega) (hc.st hS) (by omega) (by omega)) ?_
                intro w hS
                refine mv rfl rfl rfl ?_
                refine ext rfl rfl rfl rfl ?_
                refine ext rfl rfl rfl rfl ?_
                refine asg rfl rfl rfl ?_
                refine asg rfl rfl rfl ?_
                refine wq_then ?_
                refine rg ?_
                refine mv rfl rfl rfl ?_
                refine mv rfl rfl rfl ?_
                refine spl 75 rfl (fun hb64 => ?_) (fun hb64 => ?_)
                · skip
                  try simp only [SB] at hb64
                  refine mv rfl rfl rfl ?_
                  refine mv rfl rfl rfl ?_
                  refine eqi rfl rfl rfl rfl ?_
                  refine pk_t rfl rfl rfl rfl ?_
                  refine mv rfl rfl rfl ?_
                  refine spl 80 rfl (fun hb65 => ?_) (fun hb65 => ?_)
                  · skip
                    try simp only [SB] at hb65
                    refine mv rfl rfl rfl ?_
                    refine mv rfl rfl rfl ?_
                    refine eqi rfl rfl rfl rfl ?_
                    refine pk_t rfl rfl rfl rfl ?_
                    refine asg rfl rfl rfl ?_
                    refine wq_then ?_
                    refine wc_ret ?_
                    refine fin1 (v := .bool ((((peekS bs).toNat : Int) : Int) == ((headS2 bs).toNat : Int))) rfl rfl ?_
                    refine ⟨?_, hS.drop⟩
                    rw [hQ]; simp
                  · skip
                    try simp only [SB] at hb65
                    exfalso; omega
                · skip
                  try simp only [SB] at hb64
                  exfalso; omega
        · skip
          try simp only [SB] at hb58
          refine no rfl rfl ?_
          refine no rfl rfl ?_
          refine pk_f rfl rfl rfl rfl ?_
          refine pk_f rfl rfl rfl rfl ?_
          refine wq_then ?_
          refine wc_if_f rfl ?_
          refine wc_skip ?_
          refine wq_then ?_
          refine wc_seq ?_
          refine rg ?_
          refine mv rfl rfl rfl ?_
          refine lens Tryd.underlying22 rfl rfl rfl ?_
          refine lss rfl rfl rfl rfl ?_
          refine mv rfl rfl rfl ?_
          refine spl 54 rfl (fun hb66 => ?_) (fun hb66 => ?_)
          · skip
            try simp only [SB] at hb66
            have hl : lng n ≠ 0 := lng_bad (by omega)
            obtain ⟨hD, hQ⟩ := peek_bad hn hl
            refine no rfl rfl ?_
            refine no rfl rfl ?_
            refine no rfl rfl ?_
            refine pk_t rfl rfl rfl rfl ?_
            refine wq_then ?_
            refine wc_if_t rfl ?_
            refine rg ?_
            refine mv rfl rfl rfl ?_
            refine notb rfl rfl rfl ?_
            refine mv rfl rfl rfl ?_
            refine spl 61 rfl (fun hb67 => ?_) (fun hb67 => ?_)
            · skip
              try simp only [SB] at hb67
              refine mv rfl rfl rfl ?_
              refine eqi rfl rfl rfl rfl ?_
              refine pk_t rfl rfl rfl rfl ?_
              refine mv rfl rfl rfl ?_
              refine spl 65 rfl (fun hb68 => ?_) (fun hb68 => ?_)
              · skip
                try simp only [SB] at hb68
                refine mv rfl rfl rfl ?_
                refine eqi rfl rfl rfl rfl ?_
                refine pk_t rfl rfl rfl rfl ?_
                refine asg rfl rfl rfl ?_
                refine wq_then ?_
                refine wc_ret ?_
                refine q_then_ret ?_
                refine fin1 (v := .bool ((((peekS bs).toNat : Int) : Int) == (0 : Int))) rfl rfl ?_
                refine ⟨?_, hS.drop⟩
                rw [hQ]; rfl
              · skip
                try simp only [SB] at hb68
                exfalso; omega
            · skip
              try simp only [SB] at hb67
              exfalso; omega
          · skip
            try simp only [SB] at hb66
            refine mv rfl rfl rfl ?_
            refine lens Tryd.underlying22 rfl rfl rfl ?_
            refine gtr rfl rfl rfl rfl ?_
            refine pk_f rfl rfl rfl rfl ?_
            refine wq_then ?_
            refine wc_if rfl (fun hc16 => ?_) (fun hc16 => ?_)
            · skip
              try simp only [SB] at hc16
              have hl : lng n ≠ 0 := lng_bad (by omega)
              obtain ⟨hD, hQ⟩ := peek_bad hn hl
              refine rg ?_
              refine mv rfl rfl rfl ?_
              refine notb rfl rfl rfl ?_
              refine mv rfl rfl rfl ?_
              refine spl 61 rfl (fun hb69 => ?_) (fun hb69 => ?_)
              · skip
                try simp only [SB] at hb69
                refine mv rfl rfl rfl ?_
                refine eqi rfl rfl rfl rfl ?_
                refine pk_t rfl rfl rfl rfl ?_
                refine mv rfl rfl rfl ?_
                refine spl 65 rfl (fun hb70 => ?_) (fun hb70 => ?_)
                · skip
                  try simp only [SB] at hb70
                  refine mv rfl rfl rfl ?_
                  refine eqi rfl rfl rfl rfl ?_
                  refine pk_t rfl rfl rfl rfl ?_
                  refine asg rfl rfl rfl ?_
                  refine wq_then ?_
                  refine wc_ret ?_
                  refine q_then_ret ?_
                  refine fin1 (v := .bool ((((peekS bs).toNat : Int) : Int) == (0 : Int))) rfl rfl ?_
                  refine ⟨?_, hS.drop⟩
                  rw [hQ]; rfl
                · skip
                  try simp only [SB] at hb70
                  exfalso; omega
              · skip
                try simp only [SB] at hb69
                exfalso; omega
            · skip
              try simp only [SB] at hc16
              have hl : lng n = 0 := lng_ok (by omega) (by omega)
              obtain ⟨hD, hQ⟩ := peek_ok hn hl
              refine wc_skip ?_
              refine wq_then ?_
              refine rg ?_
              refine mv rfl rfl rfl ?_
              refine cv cf9 hS rfl rfl rfl rfl rfl (sp_mooringref15_ParseHead (a) (n) (cap) (bs) _ (by first | rfl | omega | (simp; omega) | (simp; done)) (by omega) (hc.st hS) (by omega) (by omega)) ?_
              intro w hS
              refine mv rfl rfl rfl ?_
              refine ext rfl rfl rfl rfl ?_
              refine ext rfl rfl rfl rfl ?_
              refine asg rfl rfl rfl ?_
              refine asg rfl rfl rfl ?_
              refine wq_then ?_
              refine rg ?_
              refine mv rfl rfl rfl ?_
              refine mv rfl rfl rfl ?_
              refine spl 75 rfl (fun hb71 => ?_) (fun hb71 => ?_)
              · skip
                try simp only [SB] at hb71
                refine mv rfl rfl rfl ?_
                refine mv rfl rfl rfl ?_
                refine eqi rfl rfl rfl rfl ?_
                refine pk_t rfl rfl rfl rfl ?_
                refine mv rfl rfl rfl ?_
                refine spl 80 rfl (fun hb72 => ?_) (fun hb72 => ?_)
                · skip
                  try simp only [SB] at hb72
                  refine mv rfl rfl rfl ?_
                  refine mv rfl rfl rfl ?_
                  refine eqi rfl rfl rfl rfl ?_
                  refine pk_t rfl rfl rfl rfl ?_
                  refine asg rfl rfl rfl ?_
                  refine wq_then ?_
                  refine wc_ret ?_
                  refine fin1 (v := .bool ((((peekS bs).toNat : Int) : Int) == ((headS2 bs).toNat : Int))) rfl rfl ?_
                  refine ⟨?_, hS.drop⟩
                  rw [hQ]; simp
                · skip
                  try simp only [SB] at hb72
                  exfalso; omega
              · skip
                try simp only [SB] at hb71
                exfalso; omega
end Go.Proofs.XX

/- PacketPeeks -/

namespace Go.Proofs.YtffhheogdmekdaaDoor.packetPeeksP
open Go Go.ChangeShapes Go.WideShapes Go.ChangeAt Go.RowKit Go.Deep Go.X

theorem own : ownKnob Tryd.prog.godebug = none := by kernel_rfl
theorem laidOut : laidOutB Tryd.prog = true := by kernel_rfl
theorem gTab : Tryd.prog.globalNamed "math/bits.deBruijn64tab" = some 0 := by kernel_rfl
theorem gTabType : (Tryd.prog.globals[0]?).map (·.type) = some 138 := by kernel_rfl
theorem cellsGT : Tryd.prog.cellsOf 138 = 64 := by kernel_rfl
theorem cells5 : Tryd.prog.cellsOf 5 = 1 := by kernel_rfl
theorem rr3 : Tryd.prog.readableRec 3 = true ∧ 3 < Tryd.prog.types.size := ⟨by kernel_rfl, of_decide_eq_true (by kernel_rfl)⟩
theorem rr22 : Tryd.prog.readableRec 22 = true ∧ 22 < Tryd.prog.types.size := ⟨by kernel_rfl, of_decide_eq_true (by kernel_rfl)⟩
theorem ws3 : Tryd.prog.wantsStandIn 3 = false := by kernel_rfl
theorem ws22 : Tryd.prog.wantsStandIn 22 = false := by kernel_rfl
theorem reads : ∀ t ∈ Tryd.f3.params.toList, Tryd.prog.readableRec t = true ∧ t < Tryd.prog.types.size := by
  rw [Tryd.params3]; intro t ht
  simp only [List.mem_cons, List.not_mem_nil, or_false] at ht
  rcases ht with rfl | rfl
  · exact rr22
  · exact rr3

/-- what the row's list gives: the table of the numbers of zeros -/
theorem table {W : World} (h : laidMetH Tryd.prog Rows.packetPeeksRow.laid W) : Lib.TabIs Tryd.prog W "math/bits.deBruijn64tab" .u8 deBz :=
  Lib.tabIs_of_head (rest := []) gTab gTabType Tryd.underlying138 Tryd.underlying5 cells5 cellsGT h

set_option maxRecDepth 100000 in
/-- what the walk gives, for every argument and every world that holds the table -/
theorem contract (H : Type) (enc : TypeId × Value → H) (W : World) (base : Nat) (args : Array Value) (ds gs : List (DataW H)) (before : List MemPlace)
    (hval : ∀ (j : Nat) t v, Tryd.f3.params[j]? = some t → args[j]? = some v → Value.okWide Tryd.prog W .any base t v)
    (hW : DataW.Whole enc Tryd.prog Tryd.f3.params.toList Rows.packetPeeksSpec.vars false W args.toList ds gs before) (hL : laidMetH Tryd.prog Rows.packetPeeksRow.laid W) :
    Calls Tryd.prog 3 args W fun e W' => ∃ v, e = .returned v ∧ Rows.packetPeeksSpec.post enc Tryd.prog Tryd.f3 false true false false W args v W' := by
  have hW' := hW
  obtain ⟨p, q, hA0, hV, rfl, hfz, hnd⟩ := hW
  have hA : DataW.TrodAll enc Tryd.prog W 0 (fun _ => true) true Tryd.f3.params.toList args.toList ds p := hA0
  have hAk := hA
  have hlt : ∀ x ∈ p, x.block < W.heap.size := fun x hx => hW'.lt x (by simp [hx])
  rw [Tryd.params3] at hA hval
  obtain ⟨v0, vs0, d0, ds0, p0, q0, hargs, rfl, rfl, h0, r0⟩ := trodAll_cons hA
  obtain ⟨v1, vs1, d1, ds1, p1, q1, rfl, rfl, rfl, h1, r1⟩ := trodAll_cons r0
  obtain ⟨rfl, rfl, rfl⟩ := trodAll_nil r1
  obtain ⟨rfl, rfl⟩ := trodVars_none hV
  have hG : Gl 0 W := gl_of_tab gTab (table hL)
  obtain rfl : args = #[v0, v1] := by cases args; simp_all
  obtain ⟨a0, n0, c0, b0, rfl, hn0, hl0, hc0⟩ := arg_bytes Tryd.underlying22 Tryd.underlying5 cells5 (hval 0 22 v0 rfl rfl) h0
  obtain ⟨z1, rfl, hz1⟩ := arg_i64 Tryd.underlying3 (hval 1 3 v1 rfl rfl) h1
  refine (XX.sp_mooringlaw17_PacketPeeks a0 n0 c0 b0 z1 W hn0 hc0 hl0 hG).mono fun e W' ⟨he, hS⟩ => ?_
  subst he
  have hb := hS.below
  exact ⟨_, rfl, _, _, _, [], _, [], hW', trodAll_cons_mk (shut_bool Tryd.underlying4 _) trodAll_mk0, args_below laidOut reads hAk hb hlt, rfl, hb.frame _, fun h => by cases h⟩

/-- a world for the witness -/
noncomputable def laidWorld (os : Os) : World :=
  { World.holding Tryd.prog os ⟨#[], #[], []⟩ with heap := (World.holding Tryd.prog os ⟨#[], #[], []⟩).heap.modify 0 fun
      | .cells _ t frozen => .cells (deBz.map fun z => Value.int .u8 z).toArray t frozen
      | o => o }
theorem laid_met (os : Os) : laidMet Tryd.prog Rows.packetPeeksRow.laid ((laidWorld os).forCall (fun _ _ => 0) ⟨#[], #[.slice none 0 0, .int .i64 0], []⟩).memory :=
  laidMet_of_run' 8 (by kernel_rfl) (by kernel_rfl)
theorem reading (os : Os) {H : Type} (enc : TypeId × Value → H) : ∃ places, DataW.whole enc Tryd.prog ((laidWorld os).forCall (fun _ _ => 0) ⟨#[], #[.slice none 0 0, .int .i64 0], []⟩).memory Tryd.f3.params.toList Rows.packetPeeksSpec.vars false (#[.slice none 0 0, .int .i64 0] : Array Value).toList 8 = some ([.nil, .lit (.int .i64 0)], [], places) :=
  ⟨[], by kernel_rfl⟩

set_option maxRecDepth 100000 in
theorem lifted (os : Os) (started : os.Started) (H : Type) (enc : TypeId × Value → H) (F : Stop.Interp) :
    ReturnsInHanded {} Tryd.checked os 3 .any ((OpenSpec.ofChange Rows.packetPeeksSpec).preRow enc Tryd.prog Tryd.f3 Rows.packetPeeksRow.domain false Rows.packetPeeksRow.laid) (((OpenSpec.ofChange Rows.packetPeeksSpec).at F).post enc Tryd.prog Tryd.f3 false true false false) := by
  obtain ⟨places, hx⟩ := reading os enc
  refine returnsInHanded_of_row (C := Tryd.checked) (s := OpenSpec.ofChange Rows.packetPeeksSpec) own started (by kernel_rfl) Tryd.func3
    (witness_row_at (enc := enc) (C := Tryd.checked) false (laidWorld os) #[.slice none 0 0, .int .i64 0] rfl (by kernel_rfl) (by kernel_rfl) (by kernel_rfl)
      (OpenSpec.preRow_of_cond 8 hx (by kernel_rfl) (fun k hk => by cases hk) (by kernel_rfl) (laid_met os))) ?_
  intro W base args ds gs before hval hW _ _ _ hL _ _
  exact contract H enc W base args ds gs before hval hW hL

theorem said : Rows.PacketPeeksSaid :=
  OpenClaim.holds_of_cond 3 Tryd.f3 rfl rfl rfl rfl rfl rfl rfl ⟨rfl, rfl, rfl, rfl, rfl⟩ rfl rfl rfl rfl rfl (by kernel_rfl) Tryd.func3 (by kernel_rfl)
    (of_decide_eq_true (by kernel_rfl)) (by unfold Func.isWrapper; first | (rw [if_pos (by decide +kernel)]; kernel_rfl) | (rw [if_neg (by decide +kernel)]; exact ⟨rfl, rfl⟩))
    (fun os started H enc _ F => by rw [OpenClaim.pre_eq_preRow]; exact lifted os started H enc F)

theorem plain (f : FuncId) (fn : Func) (hf : Tryd.pinned.checked.prog.funcNamed "mooring/mooringlaw17.PacketPeeks" = some f) (hfn : Tryd.pinned.checked.prog.funcs[f]? = some fn) :
    true = Tryd.pinned.checked.prog.looks [] ∧ ∀ (j : Nat) t, fn.params[j]? = some t → Tryd.pinned.checked.prog.wantsStandIn t = false := by
  obtain rfl : f = 3 := Option.some.inj ((show Tryd.prog.funcNamed "mooring/mooringlaw17.PacketPeeks" = some 3 by kernel_rfl).symm.trans hf) |>.symm
  obtain rfl : fn = Tryd.f3 := (Option.some.inj (Tryd.func3.symm.trans hfn)).symm
  refine ⟨by kernel_rfl, fun j t ht => ?_⟩
  rw [Tryd.params3] at ht
  have hm := Array.mem_of_getElem? ht
  simp only [List.mem_toArray, List.mem_cons, List.not_mem_nil, or_false] at hm
  rcases hm with rfl | rfl
  · exact ws22
  · exact ws3
end Go.Proofs.YtffhheogdmekdaaDoor.packetPeeksP
namespace Go.Proofs.YtffhheogdmekdaaDoor
open Go
/-- the tied card -/
theorem packetPeeks_card : Rows.PacketPeeksCardSaid :=
  Claim7.holds_tied_plain_at .later [] _ _ _ _ packetPeeksP.said (fun _ h => by cases h) (by kernel_rfl) (fun _ h => by cases h) packetPeeks_row_tie rfl ⟨rfl, rfl⟩ (by kernel_rfl) rfl packetPeeksP.plain (by kernel_rfl)
#print axioms packetPeeks_card
end Go.Proofs.YtffhheogdmekdaaDoor
