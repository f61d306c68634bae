/- Part 7 of the ground of this seat's proofs: rules of a calculus of walks, and what the functions of the lower layers compute; no conditions beyond those that each statement bears. -/
import Derived.Test.YtffhheogdmekdaaGreatDoorBase6
set_option linter.unusedVariables false
set_option linter.unusedSimpArgs false
set_option linter.unnecessarySimpa false
/- walks -/
namespace Go.Proofs.XZ
open Go Go.X Go.Proofs
set_option maxRecDepth 100000 in
theorem sp_mooringref10_Top (key : V8 16) (nonce : V8 12) (w0 : World) : Calls Tryz.prog 115 #[.agg (BV (expand key) ++ BV sboxV), .agg (BV nonce)] w0 (Ret w0 (.agg (BV (topV key nonce)))) := by
  refine enter (args := [.agg (BV (expand key) ++ BV sboxV), .agg (BV nonce)]) Tryz.func115 rfl rfl ?_
  refine startw fun w hS => ?_
  refine rg ?_
  refine bxa hS rfl rfl rfl ?_
  intro b2 w hb2 hS
  refine bxa hS rfl rfl rfl ?_
  intro b3 w hb3 hS
  refine ala zr22 hS rfl rfl ?_
  intro b4 w hb4 hS
  refine wq_then ?_
  refine rg ?_
  refine ala zr22 hS rfl rfl ?_
  intro b5 w hb5 hS
  refine wq_then ?_
  refine rg ?_
  refine ian (3) (3) Tryz.underlying22 sz5 rfl rfl rfl rfl (by omega) (by omega) (by omega) ?_
  refine st 0 sz5 hS rfl rfl rfl rfl rfl rfl (by rw [BV_size]; omega) (BV_set _ _ (1 : UInt8)) ?_
  intro w hS
  refine wq_then ?_
  refine wc_seq ?_
  refine rg ?_
  refine asg rfl rfl rfl ?_
  refine wq_then ?_
  refine wc_block ?_
  refine wc_loop (σ := Nat) (fun k => [(2, Ptr b2 0), (3, Ptr b3 0), (4, Ptr b4 0), (5, Ptr b5 0), (6, I ((k : Int)))])
    (fun k w => (k ≤ 12) ∧ St w0 [] [(b5, .cells (BV (topS nonce k)) 22), (b4, .cells (BV (Vector.replicate 16 0)) 22), (b3, .cells (BV nonce) 81), (b2, .cells (BV (expand key) ++ BV sboxV) 48)] w) (fun k => 12 - k) 0 ⟨rfl, rfl, rfl, rfl, rfl, trivial⟩ ⟨by omega, hS⟩ ?_
  rintro k w ⟨hk, hS⟩
  refine wc_seq ?_
  refine rg ?_
  refine mv rfl rfl rfl ?_
  refine lss rfl rfl rfl rfl ?_
  refine wq_then ?_
  refine wc_if rfl (fun hc1 => ?_) (fun hc1 => ?_)
  · skip
    try simp only [SB] at hc1
    refine wc_skip ?_
    refine wq_then ?_
    refine wc_seq ?_
    refine wc_block ?_
    refine wc_region ?_
    refine mv rfl rfl rfl ?_
    refine addi (by omega) (by omega) rfl rfl rfl rfl ?_
    refine mv rfl rfl rfl ?_
    refine ian (k) (k) Tryz.underlying81 sz5 rfl rfl rfl rfl (by omega) (by omega) (by omega) ?_
    refine lo 2 sc5 hS rfl rfl rfl rfl (BV_get _ k (by omega)) ?_
    refine ian (4 + k) ((4 + k)) Tryz.underlying22 sz5 rfl rfl rfl rfl (by omega) (by omega) (by omega) ?_
    refine st 0 sz5 hS rfl rfl rfl rfl rfl rfl (by rw [BV_size]; omega) (BV_set _ _ (gv nonce k : UInt8)) ?_
    intro w hS
    refine q_block_norm ?_
    refine wq_then ?_
    refine wc_region ?_
    refine mv rfl rfl rfl ?_
    refine addi (by omega) (by omega) rfl rfl rfl rfl ?_
    refine asg rfl rfl rfl ?_
    refine again_q (k + 1) ⟨rfl, rfl, rfl, rfl, lkI rfl (by first | omega | rfl), trivial⟩ ⟨by omega, hS⟩ (by omega)
  · skip
    try simp only [SB] at hc1
    have hk4 : k = 12 := by omega
    rw [hk4] at hS
    refine wc_exit ?_
    refine q_then_exit ?_
    refine q_then_exit ?_
    refine q_block_hit ?_
    refine wq_then ?_
    refine rg ?_
    refine ian (15) (15) Tryz.underlying22 sz5 rfl rfl rfl rfl (by omega) (by omega) (by omega) ?_
    refine lo 0 sc5 hS rfl rfl rfl rfl (BV_get _ 15 (by omega)) ?_
    refine ian (15) (15) Tryz.underlying22 sz5 rfl rfl rfl rfl (by omega) (by omega) (by omega) ?_
    refine lo 0 sc5 hS rfl rfl rfl rfl (BV_get _ 15 (by omega)) ?_
    refine rem8 (q := (64 : UInt8)) (by decide) rfl rfl rfl rfl ?_
    refine sub8 rfl rfl rfl rfl ?_
    refine ian (15) (15) Tryz.underlying22 sz5 rfl rfl rfl rfl (by omega) (by omega) (by omega) ?_
    refine st 0 sz5 hS rfl rfl rfl rfl rfl rfl (by rw [BV_size]; omega) (BV_set _ _ ((gv (topS nonce 12) 15) - ((gv (topS nonce 12) 15) % 64) : UInt8)) ?_
    intro w hS
    refine wq_then ?_
    refine rg ?_
    refine la 3 ag48 hS rfl rfl rfl rfl (cat_size (a := 176) (b := 256) (BV_size _) (BV_size _)) ?_
    refine la 0 ag22 hS rfl rfl rfl rfl (BV_size _) ?_
    refine cv cf95 hS rfl rfl rfl rfl rfl (sp_mooringref06_Encrypt (key) (((topS nonce 12).setIfInBounds 15 ((gv (topS nonce 12) 15) - ((gv (topS nonce 12) 15) % 64)))) _) ?_
    intro w hS
    refine sa 1 ag22 hS rfl rfl rfl (BV_one _) rfl (BV_size _) (BV_size _) ?_
    intro w hS
    refine wq_then ?_
    refine wc_ret ?_
    refine fin1 (v := .agg (BV (enc key ((topS nonce 12).setIfInBounds 15 ((gv (topS nonce 12) 15) - ((gv (topS nonce 12) 15) % 64)))))) rfl ⟨_, rfl, lv_a ag22 (hS.get 1 rfl) (BV_size _)⟩ ?_
    refine ⟨?_, hS.drop⟩
    rw [top_eq]; rfl
end Go.Proofs.XZ

/- walks -/
namespace Go.Proofs.XZ
open Go Go.X Go.Proofs
set_option maxRecDepth 100000 in
theorem sp_mooringref10_Stretch (b : V8 16) (w0 : World) : Calls Tryz.prog 114 #[.agg (BV b)] w0 (Ret w0 (.agg (BV (strL b 8)))) := by
  refine enter (args := [.agg (BV b)]) Tryz.func114 rfl rfl ?_
  refine startw fun w hS => ?_
  refine rg ?_
  refine bxa hS rfl rfl rfl ?_
  intro b1 w hb1 hS
  refine ala zr151 hS rfl rfl ?_
  intro b2 w hb2 hS
  refine wq_then ?_
  refine rg ?_
  refine ala zr151 hS rfl rfl ?_
  intro b3 w hb3 hS
  refine wq_then ?_
  refine wc_seq ?_
  refine rg ?_
  refine asg rfl rfl rfl ?_
  refine wq_then ?_
  refine wc_block ?_
  refine wc_loop (σ := Nat) (fun k => [(1, Ptr b1 0), (2, Ptr b2 0), (3, Ptr b3 0), (4, I ((k : Int)))])
    (fun k w => (k ≤ 24) ∧ St w0 [] [(b3, .cells (BV (fill8 24 (strf b) (Vector.replicate 24 0) k)) 151), (b2, .cells (BV (Vector.replicate 24 0)) 151), (b1, .cells (BV b) 22)] w) (fun k => 24 - k) 0 ⟨rfl, rfl, rfl, rfl, trivial⟩ ⟨by omega, (by simp only [Nat.zero_mul, Nat.add_zero, fill8_0, fill32_0]; exact hS)⟩ ?_
  rintro k w ⟨hk, hS⟩
  refine wc_seq ?_
  refine rg ?_
  refine mv rfl rfl rfl ?_
  refine lss rfl rfl rfl rfl ?_
  refine wq_then ?_
  refine wc_if rfl (fun hc1 => ?_) (fun hc1 => ?_)
  · skip
    try simp only [SB] at hc1
    refine wc_skip ?_
    refine wq_then ?_
    refine wc_seq ?_
    refine wc_block ?_
    refine rg ?_
    refine mv rfl rfl rfl ?_
    refine lss rfl rfl rfl rfl ?_
    refine wq_then ?_
    refine wc_if rfl (fun hc2 => ?_) (fun hc2 => ?_)
    · skip
      try simp only [SB] at hc2
      have h16 : k < 16 := by omega
      refine wc_region ?_
      refine mv rfl rfl rfl ?_
      refine mv rfl rfl rfl ?_
      refine ian (k) (k) Tryz.underlying22 sz5 rfl rfl rfl rfl (by omega) (by omega) (by omega) ?_
      refine lo 2 sc5 hS rfl rfl rfl rfl (BV_get _ k (by omega)) ?_
      refine ian (k) (k) Tryz.underlying151 sz5 rfl rfl rfl rfl (by omega) (by omega) (by omega) ?_
      refine st (cs' := BV (fill8 24 (strf b) (Vector.replicate 24 0) (k + 1))) 0 sz5 hS rfl rfl rfl rfl rfl rfl (by rw [BV_size]; omega) (by rw [BV_set, show gv b k = strf b k from (if_pos h16).symm]; exact congrArg BV (fill8_succ (strf b) _ k)) ?_
      intro w hS
      refine q_block_norm ?_
      refine wq_then ?_
      refine wc_region ?_
      refine mv rfl rfl rfl ?_
      refine addi (by omega) (by omega) rfl rfl rfl rfl ?_
      refine asg rfl rfl rfl ?_
      refine again_q (k + 1) ⟨rfl, rfl, rfl, lkI rfl (by first | omega | rfl), trivial⟩ ⟨by omega, hS⟩ (by omega)
    · skip
      try simp only [SB] at hc2
      have h16 : ¬ k < 16 := by omega
      refine wc_draw mo 10 (fun w => St w0 [] [(b2, .cells (BV (Vector.replicate 24 0)) 151), (b1, .cells (BV b) 22)] w) ?_
      have hS := hS.drew
      refine dq 0 rfl (by kernel_rfl) (by kernel_rfl) (by kernel_rfl) rfl rfl (fun w hS => mv rfl rfl rfl ⟨rfl, rfl⟩) (hS.sublist (.cons _ (.cons_cons _ (.cons_cons _ (List.nil_sublist _))))) ?_
      refine dq 1 rfl (by kernel_rfl) (by kernel_rfl) (by kernel_rfl) rfl rfl (fun w hS => mv rfl rfl rfl ⟨rfl, rfl⟩) (hS.sublist (.cons _ (.cons_cons _ (.cons_cons _ (List.nil_sublist _))))) ?_
      refine dq 2 rfl (by kernel_rfl) (by kernel_rfl) (by kernel_rfl) rfl rfl (fun w hS => subi (by omega) (by omega) rfl rfl rfl rfl ⟨rfl, rfl⟩) (hS.sublist (.cons _ (.cons_cons _ (.cons_cons _ (List.nil_sublist _))))) ?_
      refine dq 3 rfl (by kernel_rfl) (by kernel_rfl) (by kernel_rfl) rfl rfl (fun w hS => ian (k - 16) ((k - 16)) Tryz.underlying22 sz5 rfl rfl rfl rfl (by omega) (by omega) (by omega) ⟨rfl, rfl⟩) (hS.sublist (.cons _ (.cons_cons _ (.cons_cons _ (List.nil_sublist _))))) ?_
      refine dq 4 rfl (by kernel_rfl) (by kernel_rfl) (by kernel_rfl) rfl rfl (fun w hS => lo 1 sc5 hS rfl rfl rfl rfl (BV_get _ (k - 16) (by omega)) ⟨rfl, rfl⟩) (hS.sublist (.cons _ (.cons_cons _ (.cons_cons _ (List.nil_sublist _))))) ?_
      refine dq 5 rfl (by kernel_rfl) (by kernel_rfl) (by kernel_rfl) rfl rfl (fun w hS => mv rfl rfl rfl ⟨rfl, rfl⟩) (hS.sublist (.cons _ (.cons_cons _ (.cons_cons _ (List.nil_sublist _))))) ?_
      refine dq 6 rfl (by kernel_rfl) (by kernel_rfl) (by kernel_rfl) rfl rfl (fun w hS => subi (by omega) (by omega) rfl rfl rfl rfl ⟨rfl, rfl⟩) (hS.sublist (.cons _ (.cons_cons _ (.cons_cons _ (List.nil_sublist _))))) ?_
      refine dq 7 rfl (by kernel_rfl) (by kernel_rfl) (by kernel_rfl) rfl rfl (fun w hS => ian (k - 15) ((k - 15)) Tryz.underlying22 sz5 rfl rfl rfl rfl (by omega) (by omega) (by omega) ⟨rfl, rfl⟩) (hS.sublist (.cons _ (.cons_cons _ (.cons_cons _ (List.nil_sublist _))))) ?_
      refine dq 8 rfl (by kernel_rfl) (by kernel_rfl) (by kernel_rfl) rfl rfl (fun w hS => lo 1 sc5 hS rfl rfl rfl rfl (BV_get _ (k - 15) (by omega)) ⟨rfl, rfl⟩) (hS.sublist (.cons _ (.cons_cons _ (.cons_cons _ (List.nil_sublist _))))) ?_
      refine dq 9 rfl (by kernel_rfl) (by kernel_rfl) (by kernel_rfl) rfl rfl (fun w hS => xor8 rfl rfl rfl rfl ⟨rfl, rfl⟩) (hS.sublist (.cons _ (.cons_cons _ (.cons_cons _ (List.nil_sublist _))))) ?_
      refine dl 10 rfl (by kernel_rfl) ?_
      refine ian (k) (k) Tryz.underlying151 sz5 rfl rfl rfl rfl (by omega) (by omega) (by omega) ?_
      refine ⟨fun h => (by cases h), ?_⟩
      refine dl 11 rfl (by kernel_rfl) ?_
      refine st (cs' := BV (fill8 24 (strf b) (Vector.replicate 24 0) (k + 1))) 0 sz5 hS rfl rfl rfl rfl rfl rfl (by rw [BV_size]; omega) (by rw [BV_set, show gv b (k - 16) ^^^ gv b (k - 15) = strf b k from (if_neg h16).symm]; exact congrArg BV (fill8_succ (strf b) _ k)) ?_
      intro w hS
      refine ⟨fun h => (by cases h), ?_⟩
      refine de (by kernel_rfl) ?_
      refine q_block_norm ?_
      refine wq_then ?_
      refine wc_region ?_
      refine mv rfl rfl rfl ?_
      refine addi (by omega) (by omega) rfl rfl rfl rfl ?_
      refine asg rfl rfl rfl ?_
      refine again_q (k + 1) ⟨rfl, rfl, rfl, lkI rfl (by first | omega | rfl), trivial⟩ ⟨by omega, hS⟩ (by omega)
  · skip
    try simp only [SB] at hc1
    refine wc_exit ?_
    refine q_then_exit ?_
    refine q_then_exit ?_
    refine q_block_hit ?_
    refine wq_then ?_
    refine rg ?_
    refine la 0 ag151 hS rfl rfl rfl rfl (BV_size _) ?_
    refine sa 1 ag151 hS rfl rfl rfl (BV_one _) rfl (BV_size _) (BV_size _) ?_
    intro w hS
    refine wq_then ?_
    refine wc_ret ?_
    refine fin1 (v := .agg (BV (fill8 24 (strf b) (Vector.replicate 24 0) k))) rfl ⟨_, rfl, lv_a ag151 (hS.get 1 rfl) (BV_size _)⟩ ?_
    refine ⟨?_, hS.drop⟩
    have hk4 : k = 24 := by omega
    rw [hk4, fill8_n, ← str_eq]
end Go.Proofs.XZ

/- walks -/
namespace Go.Proofs.XZ
open Go Go.X Go.Proofs
set_option maxRecDepth 100000 in
theorem sp_mooringref10_Start (key : V8 16) (nonce : V8 12) (w0 : World) : Calls Tryz.prog 91 #[.agg (BV (expand key) ++ BV sboxV), .agg (BV nonce)] w0 (Ret w0 (.agg (BV (startV key nonce)))) := by
  refine enter (args := [.agg (BV (expand key) ++ BV sboxV), .agg (BV nonce)]) Tryz.func91 rfl rfl ?_
  refine startw fun w hS => ?_
  have hb := botN_lt nonce
  refine rg ?_
  refine bxa hS rfl rfl rfl ?_
  intro b2 w hb2 hS
  refine bxa hS rfl rfl rfl ?_
  intro b3 w hb3 hS
  refine ala zr22 hS rfl rfl ?_
  intro b4 w hb4 hS
  refine wq_then ?_
  refine rd mo 7 (fun w => St w0 [] [(b4, .cells (BV (Vector.replicate 16 0)) 22), (b3, .cells (BV nonce) 81), (b2, .cells (BV (expand key) ++ BV sboxV) 48)] w) ?_
  have hS := hS.drew
  refine dq 0 rfl (by kernel_rfl) (by kernel_rfl) (by kernel_rfl) rfl rfl (fun w hS => la 2 ag48 hS rfl rfl rfl rfl (cat_size (a := 176) (b := 256) (BV_size _) (BV_size _)) ⟨rfl, rfl⟩) hS ?_
  refine dq 1 rfl (by kernel_rfl) (by kernel_rfl) (by kernel_rfl) rfl rfl (fun w hS => la 1 ag81 hS rfl rfl rfl rfl (BV_size _) ⟨rfl, rfl⟩) hS ?_
  refine dq 4 rfl (by kernel_rfl) (by kernel_rfl) (by kernel_rfl) rfl rfl (fun w hS => la 1 ag81 hS rfl rfl rfl rfl (BV_size _) ⟨rfl, rfl⟩) hS ?_
  refine dl 2 rfl (by kernel_rfl) ?_
  refine cv cf115 hS rfl rfl rfl rfl rfl (sp_mooringref10_Top (key) (nonce) _) ?_
  intro w hS
  refine ⟨fun _ => hS, ?_⟩
  refine dl 3 rfl (by kernel_rfl) ?_
  refine cv cf114 hS rfl rfl rfl rfl rfl (sp_mooringref10_Stretch ((topV key nonce)) _) ?_
  intro w hS
  refine ⟨fun _ => hS, ?_⟩
  refine dl 5 rfl (by kernel_rfl) ?_
  refine cv cf116 hS rfl rfl rfl rfl rfl (sp_mooringref10_Bottom (nonce) _) ?_
  intro w hS
  refine ⟨fun _ => hS, ?_⟩
  refine dl 6 rfl (by kernel_rfl) ?_
  refine cv cf113 hS rfl rfl rfl rfl rfl (sp_mooringref08_Shift ((strL (topV key nonce) 8)) ((botN nonce)) _ _ (by omega) (by omega)) ?_
  intro w hS
  refine ⟨fun _ => hS, ?_⟩
  refine dl 7 rfl (by kernel_rfl) ?_
  refine sa 0 ag22 hS rfl rfl rfl (BV_one _) rfl (BV_size _) (BV_size _) ?_
  intro w hS
  refine ⟨fun h => (by cases h), ?_⟩
  refine de (by kernel_rfl) ?_
  refine wq_then ?_
  refine wc_ret ?_
  refine fin1 (v := .agg (BV (shiftV (strL (topV key nonce) 8) (botN nonce)))) rfl ⟨_, rfl, lv_a ag22 (hS.get 0 rfl) (BV_size _)⟩ ?_
  exact ⟨rfl, hS.drop⟩
end Go.Proofs.XZ

/- walks -/
namespace Go.Proofs.XZ
open Go Go.X Go.Proofs
set_option maxRecDepth 100000 in
set_option maxHeartbeats 1000000 in
theorem sp_mooringref12_Crypt (key : V8 16) (nonce : V8 12) (a : Option Addr) (n cap : Nat) (bs : List UInt8) (w0 : World) (hn : bs.length = n) (hN : n ≤ 1000000) (hc : Cel w0 a (c8 bs)) (hcap : n ≤ cap) (h4 : n ≤ 4000) : Calls Tryz.prog 60 #[.agg (BV (expand key) ++ BV sboxV), .agg (BV nonce), .slice a n cap] w0 (RetS w0 (fun v X => ∃ a' c', v = .agg (#[.slice a' n c'] ++ (BV (cryC bs) ++ BV (cryO key nonce n))) ∧ Own 1 a' n c' (c8 (cryT key nonce bs)) X)) := by
  refine enter (args := [.agg (BV (expand key) ++ BV sboxV), .agg (BV nonce), .slice a n cap]) Tryz.func60 rfl rfl ?_
  refine startw fun w hS => ?_
  refine rg ?_
  refine bxa hS rfl rfl rfl ?_
  intro b3 w hb3 hS
  refine bxa hS rfl rfl rfl ?_
  intro b4 w hb4 hS
  refine ala zr114 hS rfl rfl ?_
  intro b6 w hb6 hS
  refine wq_then ?_
  refine rg ?_
  refine la 2 ag48 hS rfl rfl rfl rfl (cat_size (a := 176) (b := 256) (BV_size _) (BV_size _)) ?_
  refine cv cf90 hS rfl rfl rfl rfl rfl (sp_mooringref09_Star (key) _) ?_
  intro w hS
  refine ala zr22 hS rfl rfl ?_
  intro b7 w hb7 hS
  refine sa 0 ag22 hS rfl rfl rfl (BV_one _) rfl (BV_size _) (BV_size _) ?_
  intro w hS
  refine wq_then ?_
  refine rg ?_
  refine la 3 ag48 hS rfl rfl rfl rfl (cat_size (a := 176) (b := 256) (BV_size _) (BV_size _)) ?_
  refine la 2 ag81 hS rfl rfl rfl rfl (BV_size _) ?_
  refine cv cf91 hS rfl rfl rfl rfl rfl (sp_mooringref10_Start (key) (nonce) _) ?_
  intro w hS
  refine bd (cs := #[(.slice none 0 0)] ++ (BV (Vector.replicate 16 0) ++ BV (startV key nonce))) rfl rfl rfl ((bu114 _).trans (fill_w (off := 17) (size := 16) rfl (BV_size _) (le_sz (a := 33) (cat_size (a := 1) (b := 32) rfl (cat_size (a := 16) (b := 16) (BV_size _) (BV_size _))) (by omega)) (cat_pr (a := 1) (o' := 16) rfl (by omega) (ple2 (BV_size _) (cat_size (a := 16) (b := 16) (BV_size _) (BV_size _)) (by omega)) (cat_pr (a := 16) (o' := 0) (BV_size _) (by omega) (ple2 (BV_size _) (BV_size _) (by omega)) (put_all (BV_size _) (BV_size _)))) <| rfl)) ?_
  refine ala zr114 hS rfl rfl ?_
  intro b8 w hb8 hS
  refine sa 0 ag114 hS rfl rfl rfl (cat_one (by first | rfl | kernel_rfl | (simp [Value.oneCell'])) (cat_one (BV_one _) (BV_one _))) rfl (cat_size (a := 1) (b := 32) rfl (cat_size (a := 16) (b := 16) (BV_size _) (BV_size _))) (cat_size (a := 1) (b := 32) rfl (cat_size (a := 16) (b := 16) (BV_size _) (BV_size _))) ?_
  intro w hS
  refine wq_then ?_
  refine rg ?_
  refine mv rfl rfl rfl ?_
  refine lens Tryz.underlying25 rfl rfl rfl ?_
  refine quoi (by omega) (by omega) (by omega) rfl rfl rfl rfl ?_
  refine asg rfl rfl rfl ?_
  refine wq_then ?_
  refine wc_seq ?_
  refine rg ?_
  refine asg rfl rfl rfl ?_
  refine wq_then ?_
  refine wc_block ?_
  refine wc_loop (σ := (Nat × Option Addr × Nat × List (Nat × Obj))) (fun s => [(2, .slice a n cap), (3, Ptr b3 0), (6, Ptr b6 0), (7, Ptr b7 0), (8, Ptr b8 0), (9, I (((n : Nat) : Int) / 16)), (10, I ((s.1 : Int)))])
    (fun s w => (s.1 ≤ n / 16 ∧ Own 1 s.2.1 (s.1 * 16) s.2.2.1 (c8 (crT key nonce bs s.1)) s.2.2.2) ∧ St w0 [] ([(b8, .cells (#[.slice s.2.1 (s.1 * 16) s.2.2.1] ++ (BV (crC bs s.1) ++ BV (crO key nonce s.1))) 114), (b7, .cells (BV (star key)) 22), (b6, .cells (#[(.slice none 0 0)] ++ (BV (Vector.replicate 16 0) ++ BV (Vector.replicate 16 0))) 114), (b4, .cells (BV nonce) 81), (b3, .cells (BV (expand key) ++ BV sboxV) 48)] ++ (s.2.2.2 ++ [])) w) (fun s => n / 16 - s.1) (0, none, 0, []) ⟨rfl, rfl, rfl, rfl, rfl, rfl, rfl, trivial⟩ ⟨⟨by omega, Own.nil 1⟩, (hS.napp)⟩ ?_
  rintro s w ⟨⟨hk, hO⟩, hS⟩
  refine wc_seq ?_
  refine rg ?_
  refine mv rfl rfl rfl ?_
  refine mv rfl rfl rfl ?_
  refine lss rfl rfl rfl rfl ?_
  refine wq_then ?_
  refine wc_if rfl (fun hc1 => ?_) (fun hc1 => ?_)
  · skip
    try simp only [SB] at hc1
    refine wc_skip ?_
    refine wq_then ?_
    refine wc_seq ?_
    refine wc_block ?_
    refine rg ?_
    refine mv rfl rfl rfl ?_
    refine mv rfl rfl rfl ?_
    refine cv cf92 hS rfl rfl rfl rfl rfl (sp_mooringref08_Part (a) (n) (cap) (bs) (s.1) _ _ (by omega) (by first | rfl | omega | (simp; omega) | (simp; done)) (by omega) (hc.st hS) (by omega) (by omega)) ?_
    intro w hS
    refine ala zr22 hS rfl rfl ?_
    intro b11 w hb11 hS
    refine sa 0 ag22 hS rfl rfl rfl (BV_one _) rfl (BV_size _) (BV_size _) ?_
    intro w hS
    refine wq_then ?_
    refine rd mo 8 (fun w => St w0 [] ([(b11, .cells (BV (blk bs s.1)) 22), (b8, .cells (#[.slice s.2.1 (s.1 * 16) s.2.2.1] ++ (BV (crC bs s.1) ++ BV (crO key nonce s.1))) 114), (b7, .cells (BV (star key)) 22), (b6, .cells (#[(.slice none 0 0)] ++ (BV (Vector.replicate 16 0) ++ BV (Vector.replicate 16 0))) 114), (b4, .cells (BV nonce) 81), (b3, .cells (BV (expand key) ++ BV sboxV) 48)] ++ (s.2.2.2 ++ [])) w) ?_
    have hS := hS.drew
    refine dq 0 rfl (by kernel_rfl) (by kernel_rfl) (by kernel_rfl) rfl rfl (fun w hS => fan (17) (17) Tryz.underlying114 rfl sz22 (by decide) rfl rfl rfl rfl (by omega) ⟨rfl, rfl⟩) hS ?_
    refine dq 1 rfl (by kernel_rfl) (by kernel_rfl) (by kernel_rfl) rfl rfl (fun w hS => lp (u := .agg (BV (crO key nonce s.1))) 1 ag22 hS rfl rfl rfl rfl (le_sz (a := 33) (cat_size (a := 1) (b := 32) rfl (cat_size (a := 16) (b := 16) (BV_size _) (BV_size _))) (by omega)) (cat_xr (a := 1) (o' := 16) rfl (by omega) (cat_xr (a := 16) (o' := 0) (BV_size _) (by omega) (ext_all (BV_size _)))) rfl ⟨rfl, rfl⟩) hS ?_
    refine dq 2 rfl (by kernel_rfl) (by kernel_rfl) (by kernel_rfl) rfl rfl (fun w hS => la 2 ag22 hS rfl rfl rfl rfl (BV_size _) ⟨rfl, rfl⟩) hS ?_
    refine dq 3 rfl (by kernel_rfl) (by kernel_rfl) (by kernel_rfl) rfl rfl (fun w hS => mv rfl rfl rfl ⟨rfl, rfl⟩) hS ?_
    refine dq 4 rfl (by kernel_rfl) (by kernel_rfl) (by kernel_rfl) rfl rfl (fun w hS => addi (by omega) (by omega) rfl rfl rfl rfl ⟨rfl, rfl⟩) hS ?_
    refine dq 5 rfl (by kernel_rfl) (by kernel_rfl) (by kernel_rfl) rfl rfl (fun w hS => cvu64 Tryz.underlying23 ⟨_, Tryz.underlying3⟩ rfl rfl rfl ⟨rfl, rfl⟩) hS ?_
    refine dl 6 rfl (by kernel_rfl) ?_
    refine cv cf94 hS rfl rfl rfl rfl rfl (sp_mooringref09_For (key) (s.1 + 1) ((star key)) ((toU64 ((s.1 : Int) + 1))) _ rfl rfl (by omega) (by omega)) ?_
    intro w hS
    refine ⟨fun _ => hS, ?_⟩
    refine dl 7 rfl (by kernel_rfl) ?_
    refine cv (v := .agg (BV (crO key nonce (s.1 + 1)))) cf93 hS rfl rfl rfl rfl rfl (sp_mooringref08_Xor ((crO key nonce s.1)) ((forN key (toU64 ((s.1 + 1 : Nat) : Int)))) _) ?_
    intro w hS
    refine ⟨fun _ => hS, ?_⟩
    refine dl 8 rfl (by kernel_rfl) ?_
    refine fan (17) (17) Tryz.underlying114 rfl sz22 (by decide) rfl rfl rfl rfl (by omega) ?_
    refine ⟨fun h => (by cases h), ?_⟩
    refine dl 9 rfl (by kernel_rfl) ?_
    refine spp (cs' := #[.slice s.2.1 (s.1 * 16) s.2.2.1] ++ (BV (crC bs s.1) ++ BV (crO key nonce (s.1 + 1)))) 1 ag22 hS rfl rfl rfl (BV_one _) rfl (le_sz (a := 33) (cat_size (a := 1) (b := 32) rfl (cat_size (a := 16) (b := 16) (BV_size _) (BV_size _))) (by omega)) (BV_size _) (cat_pr (a := 1) (o' := 16) rfl (by omega) (ple2 (BV_size _) (cat_size (a := 16) (b := 16) (BV_size _) (BV_size _)) (by omega)) (cat_pr (a := 16) (o' := 0) (BV_size _) (by omega) (ple2 (BV_size _) (BV_size _) (by omega)) (put_all (BV_size _) (BV_size _)))) ?_
    intro w hS
    refine ⟨fun h => (by cases h), ?_⟩
    refine de (by kernel_rfl) ?_
    refine wq_then ?_
    refine rd mo 10 (fun w => St w0 [] ([(b11, .cells (BV (blk bs s.1)) 22), (b8, .cells (#[.slice s.2.1 (s.1 * 16) s.2.2.1] ++ (BV (crC bs s.1) ++ BV (crO key nonce (s.1 + 1)))) 114), (b7, .cells (BV (star key)) 22), (b6, .cells (#[(.slice none 0 0)] ++ (BV (Vector.replicate 16 0) ++ BV (Vector.replicate 16 0))) 114), (b4, .cells (BV nonce) 81), (b3, .cells (BV (expand key) ++ BV sboxV) 48)] ++ (s.2.2.2 ++ [])) w) ?_
    have hS := hS.drew
    refine dq 0 rfl (by kernel_rfl) (by kernel_rfl) (by kernel_rfl) rfl rfl (fun w hS => la 5 ag48 hS rfl rfl rfl rfl (cat_size (a := 176) (b := 256) (BV_size _) (BV_size _)) ⟨rfl, rfl⟩) hS ?_
    refine dq 1 rfl (by kernel_rfl) (by kernel_rfl) (by kernel_rfl) rfl rfl (fun w hS => la 0 ag22 hS rfl rfl rfl rfl (BV_size _) ⟨rfl, rfl⟩) hS ?_
    refine dq 2 rfl (by kernel_rfl) (by kernel_rfl) (by kernel_rfl) rfl rfl (fun w hS => fan (17) (17) Tryz.underlying114 rfl sz22 (by decide) rfl rfl rfl rfl (by omega) ⟨rfl, rfl⟩) hS ?_
    refine dq 3 rfl (by kernel_rfl) (by kernel_rfl) (by kernel_rfl) rfl rfl (fun w hS => lp (u := .agg (BV (crO key nonce (s.1 + 1)))) 1 ag22 hS rfl rfl rfl rfl (le_sz (a := 33) (cat_size (a := 1) (b := 32) rfl (cat_size (a := 16) (b := 16) (BV_size _) (BV_size _))) (by omega)) (cat_xr (a := 1) (o' := 16) rfl (by omega) (cat_xr (a := 16) (o' := 0) (BV_size _) (by omega) (ext_all (BV_size _)))) rfl ⟨rfl, rfl⟩) hS ?_
    refine dq 6 rfl (by kernel_rfl) (by kernel_rfl) (by kernel_rfl) rfl rfl (fun w hS => fan (17) (17) Tryz.underlying114 rfl sz22 (by decide) rfl rfl rfl rfl (by omega) ⟨rfl, rfl⟩) hS ?_
    refine dq 7 rfl (by kernel_rfl) (by kernel_rfl) (by kernel_rfl) rfl rfl (fun w hS => lp (u := .agg (BV (crO key nonce (s.1 + 1)))) 1 ag22 hS rfl rfl rfl rfl (le_sz (a := 33) (cat_size (a := 1) (b := 32) rfl (cat_size (a := 16) (b := 16) (BV_size _) (BV_size _))) (by omega)) (cat_xr (a := 1) (o' := 16) rfl (by omega) (cat_xr (a := 16) (o' := 0) (BV_size _) (by omega) (ext_all (BV_size _)))) rfl ⟨rfl, rfl⟩) hS ?_
    refine dl2 4 9 rfl rfl (by kernel_rfl) ?_ ?_
    · skip
      refine cv cf93 hS rfl rfl rfl rfl rfl (sp_mooringref08_Xor ((blk bs s.1)) ((crO key nonce (s.1 + 1))) _) ?_
      intro w hS
      refine ⟨fun _ => hS, ?_⟩
      refine dl2 5 9 rfl rfl (by kernel_rfl) ?_ ?_
      · skip
        refine cv cf95 hS rfl rfl rfl rfl rfl (sp_mooringref06_Encrypt (key) ((xorV (blk bs s.1) (crO key nonce (s.1 + 1)))) _) ?_
        intro w hS
        refine ⟨fun _ => hS, ?_⟩
        refine dl2 8 9 rfl rfl (by kernel_rfl) ?_ ?_
        · skip
          refine cv (v := .agg (BV (crB key nonce bs s.1))) cf93 hS rfl rfl rfl rfl rfl (sp_mooringref08_Xor2 ((enc key (xorV (blk bs s.1) (crO key nonce (s.1 + 1))))) ((crO key nonce (s.1 + 1))) _) ?_
          intro w hS
          refine ⟨fun _ => hS, ?_⟩
          refine dl 9 rfl (by kernel_rfl) ?_
          refine ala zr22 hS rfl rfl ?_
          intro b12 w hb12 hS
          refine ⟨fun _ => hS.tl, ?_⟩
          refine dl 10 rfl (by kernel_rfl) ?_
          refine sa 0 ag22 hS rfl rfl rfl (BV_one _) rfl (BV_size _) (BV_size _) ?_
          intro w hS
          refine ⟨fun h => (by cases h), ?_⟩
          refine de (by kernel_rfl) ?_
          refine wq_then ?_
          refine rd mo 4 (fun w => St w0 [] [(b12, .cells (BV (crB key nonce bs s.1)) 22), (b11, .cells (BV (blk bs s.1)) 22), (b8, .cells (#[.slice s.2.1 (s.1 * 16) s.2.2.1] ++ (BV (crC bs s.1) ++ BV (crO key nonce (s.1 + 1)))) 114), (b7, .cells (BV (star key)) 22), (b6, .cells (#[(.slice none 0 0)] ++ (BV (Vector.replicate 16 0) ++ BV (Vector.replicate 16 0))) 114), (b4, .cells (BV nonce) 81), (b3, .cells (BV (expand key) ++ BV sboxV) 48)] w) ?_
          have hS := hS.drew
          refine dq 0 rfl (by kernel_rfl) (by kernel_rfl) (by kernel_rfl) rfl rfl (fun w hS => fan (0) (0) Tryz.underlying114 rfl sz25 (by decide) rfl rfl rfl rfl (by omega) ⟨rfl, rfl⟩) (hS.sublist (.cons_cons _ (.cons_cons _ (.cons_cons _ (.cons_cons _ (.cons_cons _ (.cons_cons _ (.cons_cons _ (List.nil_sublist _))))))))) ?_
          refine dq 1 rfl (by kernel_rfl) (by kernel_rfl) (by kernel_rfl) rfl rfl (fun w hS => lo 2 sc25 hS rfl rfl rfl rfl (cat_l (a := 1) rfl (by omega) rfl) ⟨rfl, rfl⟩) (hS.sublist (.cons_cons _ (.cons_cons _ (.cons_cons _ (.cons_cons _ (.cons_cons _ (.cons_cons _ (.cons_cons _ (List.nil_sublist _))))))))) ?_
          refine dq 2 rfl (by kernel_rfl) (by kernel_rfl) (by kernel_rfl) rfl rfl (fun w hS => a_all Tryz.underlying22 ⟨_, sz5⟩ rfl rfl rfl ⟨rfl, rfl⟩) (hS.sublist (.cons_cons _ (.cons_cons _ (.cons_cons _ (.cons_cons _ (.cons_cons _ (.cons_cons _ (.cons_cons _ (List.nil_sublist _))))))))) ?_
          refine dl 3 rfl (by kernel_rfl) ?_
          refine app (A := [(b12, .cells (BV (crB key nonce bs s.1)) 22), (b11, .cells (BV (blk bs s.1)) 22), (b8, .cells (#[.slice s.2.1 (s.1 * 16) s.2.2.1] ++ (BV (crC bs s.1) ++ BV (crO key nonce (s.1 + 1)))) 114), (b7, .cells (BV (star key)) 22), (b6, .cells (#[(.slice none 0 0)] ++ (BV (Vector.replicate 16 0) ++ BV (Vector.replicate 16 0))) 114), (b4, .cells (BV nonce) 81), (b3, .cells (BV (expand key) ++ BV sboxV) 48)]) (R := []) sl25 hO hS rfl rfl rfl rfl (src8 Tryz.underlying25 _ (Cel.bv (hS.get 0 rfl)) Vector.length_toList) (by omega) (by omega) ?_
          intro a53 c53 X53 w hO53 hS
          try simp only [c8_app] at hO53
          refine ⟨fun _ => (hS.sublist (.cons_cons _ (.cons_cons _ (.cons_cons _ (.cons_cons _ (.cons_cons _ (.cons_cons _ (.cons_cons _ (List.nil_sublist _))))))))), ?_⟩
          refine dl 4 rfl (by kernel_rfl) ?_
          refine fan (0) (0) Tryz.underlying114 rfl sz25 (by decide) rfl rfl rfl rfl (by omega) ?_
          refine ⟨fun h => (by cases h), ?_⟩
          refine dl 5 rfl (by kernel_rfl) ?_
          refine st 2 sz25 hS rfl rfl rfl rfl rfl rfl (lt_sz (a := 33) (cat_size (a := 1) (b := 32) rfl (cat_size (a := 16) (b := 16) (BV_size _) (BV_size _))) (by omega)) (cat_sl (a := 1) rfl (by omega) rfl) ?_
          intro w hS
          refine ⟨fun h => (by cases h), ?_⟩
          refine de (by kernel_rfl) ?_
          refine wq_then ?_
          refine wc_region ?_
          refine fan (1) (1) Tryz.underlying114 rfl sz22 (by decide) rfl rfl rfl rfl (by omega) ?_
          refine lp (u := .agg (BV (crC bs s.1))) 2 ag22 hS rfl rfl rfl rfl (le_sz (a := 33) (cat_size (a := 1) (b := 32) rfl (cat_size (a := 16) (b := 16) (BV_size _) (BV_size _))) (by omega)) (cat_xr (a := 1) (o' := 0) rfl (by omega) (cat_xl (a := 16) (BV_size _) (by omega) (ext_all (BV_size _)))) rfl ?_
          refine la 1 ag22 hS rfl rfl rfl rfl (BV_size _) ?_
          refine cv (v := .agg (BV (crC bs (s.1 + 1)))) cf93 hS rfl rfl rfl rfl rfl (sp_mooringref08_Xor ((crC bs s.1)) ((blk bs s.1)) _) ?_
          intro w hS
          refine fan (1) (1) Tryz.underlying114 rfl sz22 (by decide) rfl rfl rfl rfl (by omega) ?_
          refine spp (cs' := #[.slice a53 ((s.1 * 16) + 16) c53] ++ (BV (crC bs (s.1 + 1)) ++ BV (crO key nonce (s.1 + 1)))) 2 ag22 hS rfl rfl rfl (BV_one _) rfl (le_sz (a := 33) (cat_size (a := 1) (b := 32) rfl (cat_size (a := 16) (b := 16) (BV_size _) (BV_size _))) (by omega)) (BV_size _) (cat_pr (a := 1) (o' := 0) rfl (by omega) (ple2 (BV_size _) (cat_size (a := 16) (b := 16) (BV_size _) (BV_size _)) (by omega)) (cat_pl (a := 16) (BV_size _) (ple (BV_size _) (by omega)) (put_all (BV_size _) (BV_size _)))) ?_
          intro w hS
          refine q_block_norm ?_
          refine wq_then ?_
          refine wc_region ?_
          refine mv rfl rfl rfl ?_
          refine addi (by omega) (by omega) rfl rfl rfl rfl ?_
          refine asg rfl rfl rfl ?_
          have e16 : s.1 * 16 + 16 = (s.1 + 1) * 16 := by omega
          rw [e16] at hS hO53
          refine again_q (s.1 + 1, a53, c53, X53) ⟨rfl, rfl, rfl, rfl, rfl, rfl, lkI rfl (by first | omega | rfl), trivial⟩ ⟨⟨by omega, hO53⟩, hS.tl.tl⟩ (by omega)
        · skip
          refine ala zr22 hS rfl rfl ?_
          intro b12 w hb12 hS
          refine ⟨fun _ => hS.tl, ?_⟩
          refine dl 8 rfl (by kernel_rfl) ?_
          refine cv (v := .agg (BV (crB key nonce bs s.1))) cf93 hS rfl rfl rfl rfl rfl (sp_mooringref08_Xor2 ((enc key (xorV (blk bs s.1) (crO key nonce (s.1 + 1))))) ((crO key nonce (s.1 + 1))) _) ?_
          intro w hS
          refine ⟨fun _ => hS.tl, ?_⟩
          refine dl 10 rfl (by kernel_rfl) ?_
          refine sa 0 ag22 hS rfl rfl rfl (BV_one _) rfl (BV_size _) (BV_size _) ?_
          intro w hS
          refine ⟨fun h => (by cases h), ?_⟩
          refine de (by kernel_rfl) ?_
          refine wq_then ?_
          refine rd mo 4 (fun w => St w0 [] [(b12, .cells (BV (crB key nonce bs s.1)) 22), (b11, .cells (BV (blk bs s.1)) 22), (b8, .cells (#[.slice s.2.1 (s.1 * 16) s.2.2.1] ++ (BV (crC bs s.1) ++ BV (crO key nonce (s.1 + 1)))) 114), (b7, .cells (BV (star key)) 22), (b6, .cells (#[(.slice none 0 0)] ++ (BV (Vector.replicate 16 0) ++ BV (Vector.replicate 16 0))) 114), (b4, .cells (BV nonce) 81), (b3, .cells (BV (expand key) ++ BV sboxV) 48)] w) ?_
          have hS := hS.drew
          refine dq 0 rfl (by kernel_rfl) (by kernel_rfl) (by kernel_rfl) rfl rfl (fun w hS => fan (0) (0) Tryz.underlying114 rfl sz25 (by decide) rfl rfl rfl rfl (by omega) ⟨rfl, rfl⟩) (hS.sublist (.cons_cons _ (.cons_cons _ (.cons_cons _ (.cons_cons _ (.cons_cons _ (.cons_cons _ (.cons_cons _ (List.nil_sublist _))))))))) ?_
          refine dq 1 rfl (by kernel_rfl) (by kernel_rfl) (by kernel_rfl) rfl rfl (fun w hS => lo 2 sc25 hS rfl rfl rfl rfl (cat_l (a := 1) rfl (by omega) rfl) ⟨rfl, rfl⟩) (hS.sublist (.cons_cons _ (.cons_cons _ (.cons_cons _ (.cons_cons _ (.cons_cons _ (.cons_cons _ (.cons_cons _ (List.nil_sublist _))))))))) ?_
          refine dq 2 rfl (by kernel_rfl) (by kernel_rfl) (by kernel_rfl) rfl rfl (fun w hS => a_all Tryz.underlying22 ⟨_, sz5⟩ rfl rfl rfl ⟨rfl, rfl⟩) (hS.sublist (.cons_cons _ (.cons_cons _ (.cons_cons _ (.cons_cons _ (.cons_cons _ (.cons_cons _ (.cons_cons _ (List.nil_sublist _))))))))) ?_
          refine dl 3 rfl (by kernel_rfl) ?_
          refine app (A := [(b12, .cells (BV (crB key nonce bs s.1)) 22), (b11, .cells (BV (blk bs s.1)) 22), (b8, .cells (#[.slice s.2.1 (s.1 * 16) s.2.2.1] ++ (BV (crC bs s.1) ++ BV (crO key nonce (s.1 + 1)))) 114), (b7, .cells (BV (star key)) 22), (b6, .cells (#[(.slice none 0 0)] ++ (BV (Vector.replicate 16 0) ++ BV (Vector.replicate 16 0))) 114), (b4, .cells (BV nonce) 81), (b3, .cells (BV (expand key) ++ BV sboxV) 48)]) (R := []) sl25 hO hS rfl rfl rfl rfl (src8 Tryz.underlying25 _ (Cel.bv (hS.get 0 rfl)) Vector.length_toList) (by omega) (by omega) ?_
          intro a53 c53 X53 w hO53 hS
          try simp only [c8_app] at hO53
          refine ⟨fun _ => (hS.sublist (.cons_cons _ (.cons_cons _ (.cons_cons _ (.cons_cons _ (.cons_cons _ (.cons_cons _ (.cons_cons _ (List.nil_sublist _))))))))), ?_⟩
          refine dl 4 rfl (by kernel_rfl) ?_
          refine fan (0) (0) Tryz.underlying114 rfl sz25 (by decide) rfl rfl rfl rfl (by omega) ?_
          refine ⟨fun h => (by cases h), ?_⟩
          refine dl 5 rfl (by kernel_rfl) ?_
          refine st 2 sz25 hS rfl rfl rfl rfl rfl rfl (lt_sz (a := 33) (cat_size (a := 1) (b := 32) rfl (cat_size (a := 16) (b := 16) (BV_size _) (BV_size _))) (by omega)) (cat_sl (a := 1) rfl (by omega) rfl) ?_
          intro w hS
          refine ⟨fun h => (by cases h), ?_⟩
          refine de (by kernel_rfl) ?_
          refine wq_then ?_
          refine wc_region ?_
          refine fan (1) (1) Tryz.underlying114 rfl sz22 (by decide) rfl rfl rfl rfl (by omega) ?_
          refine lp (u := .agg (BV (crC bs s.1))) 2 ag22 hS rfl rfl rfl rfl (le_sz (a := 33) (cat_size (a := 1) (b := 32) rfl (cat_size (a := 16) (b := 16) (BV_size _) (BV_size _))) (by omega)) (cat_xr (a := 1) (o' := 0) rfl (by omega) (cat_xl (a := 16) (BV_size _) (by omega) (ext_all (BV_size _)))) rfl ?_
          refine la 1 ag22 hS rfl rfl rfl rfl (BV_size _) ?_
          refine cv (v := .agg (BV (crC bs (s.1 + 1)))) cf93 hS rfl rfl rfl rfl rfl (sp_mooringref08_Xor ((crC bs s.1)) ((blk bs s.1)) _) ?_
          intro w hS
          refine fan (1) (1) Tryz.underlying114 rfl sz22 (by decide) rfl rfl rfl rfl (by omega) ?_
          refine spp (cs' := #[.slice a53 ((s.1 * 16) + 16) c53] ++ (BV (crC bs (s.1 + 1)) ++ BV (crO key nonce (s.1 + 1)))) 2 ag22 hS rfl rfl rfl (BV_one _) rfl (le_sz (a := 33) (cat_size (a := 1) (b := 32) rfl (cat_size (a := 16) (b := 16) (BV_size _) (BV_size _))) (by omega)) (BV_size _) (cat_pr (a := 1) (o' := 0) rfl (by omega) (ple2 (BV_size _) (cat_size (a := 16) (b := 16) (BV_size _) (BV_size _)) (by omega)) (cat_pl (a := 16) (BV_size _) (ple (BV_size _) (by omega)) (put_all (BV_size _) (BV_size _)))) ?_
          intro w hS
          refine q_block_norm ?_
          refine wq_then ?_
          refine wc_region ?_
          refine mv rfl rfl rfl ?_
          refine addi (by omega) (by omega) rfl rfl rfl rfl ?_
          refine asg rfl rfl rfl ?_
          have e16 : s.1 * 16 + 16 = (s.1 + 1) * 16 := by omega
          rw [e16] at hS hO53
          refine again_q (s.1 + 1, a53, c53, X53) ⟨rfl, rfl, rfl, rfl, rfl, rfl, lkI rfl (by first | omega | rfl), trivial⟩ ⟨⟨by omega, hO53⟩, hS.tl.tl⟩ (by omega)
      · skip
        refine ala zr22 hS rfl rfl ?_
        intro b12 w hb12 hS
        refine ⟨fun _ => hS.tl, ?_⟩
        refine dl 5 rfl (by kernel_rfl) ?_
        refine cv cf95 hS rfl rfl rfl rfl rfl (sp_mooringref06_Encrypt (key) ((xorV (blk bs s.1) (crO key nonce (s.1 + 1)))) _) ?_
        intro w hS
        refine ⟨fun _ => hS.tl, ?_⟩
        refine dl 8 rfl (by kernel_rfl) ?_
        refine cv (v := .agg (BV (crB key nonce bs s.1))) cf93 hS rfl rfl rfl rfl rfl (sp_mooringref08_Xor2 ((enc key (xorV (blk bs s.1) (crO key nonce (s.1 + 1))))) ((crO key nonce (s.1 + 1))) _) ?_
        intro w hS
        refine ⟨fun _ => hS.tl, ?_⟩
        refine dl 10 rfl (by kernel_rfl) ?_
        refine sa 0 ag22 hS rfl rfl rfl (BV_one _) rfl (BV_size _) (BV_size _) ?_
        intro w hS
        refine ⟨fun h => (by cases h), ?_⟩
        refine de (by kernel_rfl) ?_
        refine wq_then ?_
        refine rd mo 4 (fun w => St w0 [] [(b12, .cells (BV (crB key nonce bs s.1)) 22), (b11, .cells (BV (blk bs s.1)) 22), (b8, .cells (#[.slice s.2.1 (s.1 * 16) s.2.2.1] ++ (BV (crC bs s.1) ++ BV (crO key nonce (s.1 + 1)))) 114), (b7, .cells (BV (star key)) 22), (b6, .cells (#[(.slice none 0 0)] ++ (BV (Vector.replicate 16 0) ++ BV (Vector.replicate 16 0))) 114), (b4, .cells (BV nonce) 81), (b3, .cells (BV (expand key) ++ BV sboxV) 48)] w) ?_
        have hS := hS.drew
        refine dq 0 rfl (by kernel_rfl) (by kernel_rfl) (by kernel_rfl) rfl rfl (fun w hS => fan (0) (0) Tryz.underlying114 rfl sz25 (by decide) rfl rfl rfl rfl (by omega) ⟨rfl, rfl⟩) (hS.sublist (.cons_cons _ (.cons_cons _ (.cons_cons _ (.cons_cons _ (.cons_cons _ (.cons_cons _ (.cons_cons _ (List.nil_sublist _))))))))) ?_
        refine dq 1 rfl (by kernel_rfl) (by kernel_rfl) (by kernel_rfl) rfl rfl (fun w hS => lo 2 sc25 hS rfl rfl rfl rfl (cat_l (a := 1) rfl (by omega) rfl) ⟨rfl, rfl⟩) (hS.sublist (.cons_cons _ (.cons_cons _ (.cons_cons _ (.cons_cons _ (.cons_cons _ (.cons_cons _ (.cons_cons _ (List.nil_sublist _))))))))) ?_
        refine dq 2 rfl (by kernel_rfl) (by kernel_rfl) (by kernel_rfl) rfl rfl (fun w hS => a_all Tryz.underlying22 ⟨_, sz5⟩ rfl rfl rfl ⟨rfl, rfl⟩) (hS.sublist (.cons_cons _ (.cons_cons _ (.cons_cons _ (.cons_cons _ (.cons_cons _ (.cons_cons _ (.cons_cons _ (List.nil_sublist _))))))))) ?_
        refine dl 3 rfl (by kernel_rfl) ?_
        refine app (A := [(b12, .cells (BV (crB key nonce bs s.1)) 22), (b11, .cells (BV (blk bs s.1)) 22), (b8, .cells (#[.slice s.2.1 (s.1 * 16) s.2.2.1] ++ (BV (crC bs s.1) ++ BV (crO key nonce (s.1 + 1)))) 114), (b7, .cells (BV (star key)) 22), (b6, .cells (#[(.slice none 0 0)] ++ (BV (Vector.replicate 16 0) ++ BV (Vector.replicate 16 0))) 114), (b4, .cells (BV nonce) 81), (b3, .cells (BV (expand key) ++ BV sboxV) 48)]) (R := []) sl25 hO hS rfl rfl rfl rfl (src8 Tryz.underlying25 _ (Cel.bv (hS.get 0 rfl)) Vector.length_toList) (by omega) (by omega) ?_
        intro a53 c53 X53 w hO53 hS
        try simp only [c8_app] at hO53
        refine ⟨fun _ => (hS.sublist (.cons_cons _ (.cons_cons _ (.cons_cons _ (.cons_cons _ (.cons_cons _ (.cons_cons _ (.cons_cons _ (List.nil_sublist _))))))))), ?_⟩
        refine dl 4 rfl (by kernel_rfl) ?_
        refine fan (0) (0) Tryz.underlying114 rfl sz25 (by decide) rfl rfl rfl rfl (by omega) ?_
        refine ⟨fun h => (by cases h), ?_⟩
        refine dl 5 rfl (by kernel_rfl) ?_
        refine st 2 sz25 hS rfl rfl rfl rfl rfl rfl (lt_sz (a := 33) (cat_size (a := 1) (b := 32) rfl (cat_size (a := 16) (b := 16) (BV_size _) (BV_size _))) (by omega)) (cat_sl (a := 1) rfl (by omega) rfl) ?_
        intro w hS
        refine ⟨fun h => (by cases h), ?_⟩
        refine de (by kernel_rfl) ?_
        refine wq_then ?_
        refine wc_region ?_
        refine fan (1) (1) Tryz.underlying114 rfl sz22 (by decide) rfl rfl rfl rfl (by omega) ?_
        refine lp (u := .agg (BV (crC bs s.1))) 2 ag22 hS rfl rfl rfl rfl (le_sz (a := 33) (cat_size (a := 1) (b := 32) rfl (cat_size (a := 16) (b := 16) (BV_size _) (BV_size _))) (by omega)) (cat_xr (a := 1) (o' := 0) rfl (by omega) (cat_xl (a := 16) (BV_size _) (by omega) (ext_all (BV_size _)))) rfl ?_
        refine la 1 ag22 hS rfl rfl rfl rfl (BV_size _) ?_
        refine cv (v := .agg (BV (crC bs (s.1 + 1)))) cf93 hS rfl rfl rfl rfl rfl (sp_mooringref08_Xor ((crC bs s.1)) ((blk bs s.1)) _) ?_
        intro w hS
        refine fan (1) (1) Tryz.underlying114 rfl sz22 (by decide) rfl rfl rfl rfl (by omega) ?_
        refine spp (cs' := #[.slice a53 ((s.1 * 16) + 16) c53] ++ (BV (crC bs (s.1 + 1)) ++ BV (crO key nonce (s.1 + 1)))) 2 ag22 hS rfl rfl rfl (BV_one _) rfl (le_sz (a := 33) (cat_size (a := 1) (b := 32) rfl (cat_size (a := 16) (b := 16) (BV_size _) (BV_size _))) (by omega)) (BV_size _) (cat_pr (a := 1) (o' := 0) rfl (by omega) (ple2 (BV_size _) (cat_size (a := 16) (b := 16) (BV_size _) (BV_size _)) (by omega)) (cat_pl (a := 16) (BV_size _) (ple (BV_size _) (by omega)) (put_all (BV_size _) (BV_size _)))) ?_
        intro w hS
        refine q_block_norm ?_
        refine wq_then ?_
        refine wc_region ?_
        refine mv rfl rfl rfl ?_
        refine addi (by omega) (by omega) rfl rfl rfl rfl ?_
        refine asg rfl rfl rfl ?_
        have e16 : s.1 * 16 + 16 = (s.1 + 1) * 16 := by omega
        rw [e16] at hS hO53
        refine again_q (s.1 + 1, a53, c53, X53) ⟨rfl, rfl, rfl, rfl, rfl, rfl, lkI rfl (by first | omega | rfl), trivial⟩ ⟨⟨by omega, hO53⟩, hS.tl.tl⟩ (by omega)
    · skip
      refine ala zr22 hS rfl rfl ?_
      intro b12 w hb12 hS
      refine ⟨fun _ => hS.tl, ?_⟩
      refine dl 4 rfl (by kernel_rfl) ?_
      refine cv cf93 hS rfl rfl rfl rfl rfl (sp_mooringref08_Xor ((blk bs s.1)) ((crO key nonce (s.1 + 1))) _) ?_
      intro w hS
      refine ⟨fun _ => hS.tl, ?_⟩
      refine dl 5 rfl (by kernel_rfl) ?_
      refine cv cf95 hS rfl rfl rfl rfl rfl (sp_mooringref06_Encrypt (key) ((xorV (blk bs s.1) (crO key nonce (s.1 + 1)))) _) ?_
      intro w hS
      refine ⟨fun _ => hS.tl, ?_⟩
      refine dl 8 rfl (by kernel_rfl) ?_
      refine cv (v := .agg (BV (crB key nonce bs s.1))) cf93 hS rfl rfl rfl rfl rfl (sp_mooringref08_Xor2 ((enc key (xorV (blk bs s.1) (crO key nonce (s.1 + 1))))) ((crO key nonce (s.1 + 1))) _) ?_
      intro w hS
      refine ⟨fun _ => hS.tl, ?_⟩
      refine dl 10 rfl (by kernel_rfl) ?_
      refine sa 0 ag22 hS rfl rfl rfl (BV_one _) rfl (BV_size _) (BV_size _) ?_
      intro w hS
      refine ⟨fun h => (by cases h), ?_⟩
      refine de (by kernel_rfl) ?_
      refine wq_then ?_
      refine rd mo 4 (fun w => St w0 [] [(b12, .cells (BV (crB key nonce bs s.1)) 22), (b11, .cells (BV (blk bs s.1)) 22), (b8, .cells (#[.slice s.2.1 (s.1 * 16) s.2.2.1] ++ (BV (crC bs s.1) ++ BV (crO key nonce (s.1 + 1)))) 114), (b7, .cells (BV (star key)) 22), (b6, .cells (#[(.slice none 0 0)] ++ (BV (Vector.replicate 16 0) ++ BV (Vector.replicate 16 0))) 114), (b4, .cells (BV nonce) 81), (b3, .cells (BV (expand key) ++ BV sboxV) 48)] w) ?_
      have hS := hS.drew
      refine dq 0 rfl (by kernel_rfl) (by kernel_rfl) (by kernel_rfl) rfl rfl (fun w hS => fan (0) (0) Tryz.underlying114 rfl sz25 (by decide) rfl rfl rfl rfl (by omega) ⟨rfl, rfl⟩) (hS.sublist (.cons_cons _ (.cons_cons _ (.cons_cons _ (.cons_cons _ (.cons_cons _ (.cons_cons _ (.cons_cons _ (List.nil_sublist _))))))))) ?_
      refine dq 1 rfl (by kernel_rfl) (by kernel_rfl) (by kernel_rfl) rfl rfl (fun w hS => lo 2 sc25 hS rfl rfl rfl rfl (cat_l (a := 1) rfl (by omega) rfl) ⟨rfl, rfl⟩) (hS.sublist (.cons_cons _ (.cons_cons _ (.cons_cons _ (.cons_cons _ (.cons_cons _ (.cons_cons _ (.cons_cons _ (List.nil_sublist _))))))))) ?_
      refine dq 2 rfl (by kernel_rfl) (by kernel_rfl) (by kernel_rfl) rfl rfl (fun w hS => a_all Tryz.underlying22 ⟨_, sz5⟩ rfl rfl rfl ⟨rfl, rfl⟩) (hS.sublist (.cons_cons _ (.cons_cons _ (.cons_cons _ (.cons_cons _ (.cons_cons _ (.cons_cons _ (.cons_cons _ (List.nil_sublist _))))))))) ?_
      refine dl 3 rfl (by kernel_rfl) ?_
      refine app (A := [(b12, .cells (BV (crB key nonce bs s.1)) 22), (b11, .cells (BV (blk bs s.1)) 22), (b8, .cells (#[.slice s.2.1 (s.1 * 16) s.2.2.1] ++ (BV (crC bs s.1) ++ BV (crO key nonce (s.1 + 1)))) 114), (b7, .cells (BV (star key)) 22), (b6, .cells (#[(.slice none 0 0)] ++ (BV (Vector.replicate 16 0) ++ BV (Vector.replicate 16 0))) 114), (b4, .cells (BV nonce) 81), (b3, .cells (BV (expand key) ++ BV sboxV) 48)]) (R := []) sl25 hO hS rfl rfl rfl rfl (src8 Tryz.underlying25 _ (Cel.bv (hS.get 0 rfl)) Vector.length_toList) (by omega) (by omega) ?_
      intro a53 c53 X53 w hO53 hS
      try simp only [c8_app] at hO53
      refine ⟨fun _ => (hS.sublist (.cons_cons _ (.cons_cons _ (.cons_cons _ (.cons_cons _ (.cons_cons _ (.cons_cons _ (.cons_cons _ (List.nil_sublist _))))))))), ?_⟩
      refine dl 4 rfl (by kernel_rfl) ?_
      refine fan (0) (0) Tryz.underlying114 rfl sz25 (by decide) rfl rfl rfl rfl (by omega) ?_
      refine ⟨fun h => (by cases h), ?_⟩
      refine dl 5 rfl (by kernel_rfl) ?_
      refine st 2 sz25 hS rfl rfl rfl rfl rfl rfl (lt_sz (a := 33) (cat_size (a := 1) (b := 32) rfl (cat_size (a := 16) (b := 16) (BV_size _) (BV_size _))) (by omega)) (cat_sl (a := 1) rfl (by omega) rfl) ?_
      intro w hS
      refine ⟨fun h => (by cases h), ?_⟩
      refine de (by kernel_rfl) ?_
      refine wq_then ?_
      refine wc_region ?_
      refine fan (1) (1) Tryz.underlying114 rfl sz22 (by decide) rfl rfl rfl rfl (by omega) ?_
      refine lp (u := .agg (BV (crC bs s.1))) 2 ag22 hS rfl rfl rfl rfl (le_sz (a := 33) (cat_size (a := 1) (b := 32) rfl (cat_size (a := 16) (b := 16) (BV_size _) (BV_size _))) (by omega)) (cat_xr (a := 1) (o' := 0) rfl (by omega) (cat_xl (a := 16) (BV_size _) (by omega) (ext_all (BV_size _)))) rfl ?_
      refine la 1 ag22 hS rfl rfl rfl rfl (BV_size _) ?_
      refine cv (v := .agg (BV (crC bs (s.1 + 1)))) cf93 hS rfl rfl rfl rfl rfl (sp_mooringref08_Xor ((crC bs s.1)) ((blk bs s.1)) _) ?_
      intro w hS
      refine fan (1) (1) Tryz.underlying114 rfl sz22 (by decide) rfl rfl rfl rfl (by omega) ?_
      refine spp (cs' := #[.slice a53 ((s.1 * 16) + 16) c53] ++ (BV (crC bs (s.1 + 1)) ++ BV (crO key nonce (s.1 + 1)))) 2 ag22 hS rfl rfl rfl (BV_one _) rfl (le_sz (a := 33) (cat_size (a := 1) (b := 32) rfl (cat_size (a := 16) (b := 16) (BV_size _) (BV_size _))) (by omega)) (BV_size _) (cat_pr (a := 1) (o' := 0) rfl (by omega) (ple2 (BV_size _) (cat_size (a := 16) (b := 16) (BV_size _) (BV_size _)) (by omega)) (cat_pl (a := 16) (BV_size _) (ple (BV_size _) (by omega)) (put_all (BV_size _) (BV_size _)))) ?_
      intro w hS
      refine q_block_norm ?_
      refine wq_then ?_
      refine wc_region ?_
      refine mv rfl rfl rfl ?_
      refine addi (by omega) (by omega) rfl rfl rfl rfl ?_
      refine asg rfl rfl rfl ?_
      have e16 : s.1 * 16 + 16 = (s.1 + 1) * 16 := by omega
      rw [e16] at hS hO53
      refine again_q (s.1 + 1, a53, c53, X53) ⟨rfl, rfl, rfl, rfl, rfl, rfl, lkI rfl (by first | omega | rfl), trivial⟩ ⟨⟨by omega, hO53⟩, hS.tl.tl⟩ (by omega)
  · skip
    try simp only [SB] at hc1
    have hk4 : s.1 = n / 16 := by omega
    rw [hk4] at hS hO
    refine wc_exit ?_
    refine q_then_exit ?_
    refine q_then_exit ?_
    refine q_block_hit ?_
    refine wq_then ?_
    refine wc_seq ?_
    refine rg ?_
    refine mv rfl rfl rfl ?_
    refine lens Tryz.underlying25 rfl rfl rfl ?_
    refine remi (by omega) (by omega) rfl rfl rfl rfl ?_
    refine gtr rfl rfl rfl rfl ?_
    refine wq_then ?_
    refine wc_if rfl (fun hc2 => ?_) (fun hc2 => ?_)
    · skip
      try simp only [SB] at hc2
      have h16 : 0 < n % 16 := by omega
      refine rg ?_
      refine fan (17) (17) Tryz.underlying114 rfl sz22 (by decide) rfl rfl rfl rfl (by omega) ?_
      refine lp (u := .agg (BV (crO key nonce (n / 16)))) 0 ag22 hS rfl rfl rfl rfl (le_sz (a := 33) (cat_size (a := 1) (b := 32) rfl (cat_size (a := 16) (b := 16) (BV_size _) (BV_size _))) (by omega)) (cat_xr (a := 1) (o' := 16) rfl (by omega) (cat_xr (a := 16) (o' := 0) (BV_size _) (by omega) (ext_all (BV_size _)))) rfl ?_
      refine la 1 ag22 hS rfl rfl rfl rfl (BV_size _) ?_
      refine cv cf93 hS rfl rfl rfl rfl rfl (sp_mooringref08_Xor ((crO key nonce (n / 16))) ((star key)) _) ?_
      intro w hS
      refine fan (17) (17) Tryz.underlying114 rfl sz22 (by decide) rfl rfl rfl rfl (by omega) ?_
      refine spp (cs' := #[.slice s.2.1 (n / 16 * 16) s.2.2.1] ++ (BV (crC bs (n / 16)) ++ BV (xorV (crO key nonce (n / 16)) (star key)))) 0 ag22 hS rfl rfl rfl (BV_one _) rfl (le_sz (a := 33) (cat_size (a := 1) (b := 32) rfl (cat_size (a := 16) (b := 16) (BV_size _) (BV_size _))) (by omega)) (BV_size _) (cat_pr (a := 1) (o' := 16) rfl (by omega) (ple2 (BV_size _) (cat_size (a := 16) (b := 16) (BV_size _) (BV_size _)) (by omega)) (cat_pr (a := 16) (o' := 0) (BV_size _) (by omega) (ple2 (BV_size _) (BV_size _) (by omega)) (put_all (BV_size _) (BV_size _)))) ?_
      intro w hS
      refine wq_then ?_
      refine rg ?_
      refine la 4 ag48 hS rfl rfl rfl rfl (cat_size (a := 176) (b := 256) (BV_size _) (BV_size _)) ?_
      refine fan (17) (17) Tryz.underlying114 rfl sz22 (by decide) rfl rfl rfl rfl (by omega) ?_
      refine lp (u := .agg (BV (xorV (crO key nonce (n / 16)) (star key)))) 0 ag22 hS rfl rfl rfl rfl (le_sz (a := 33) (cat_size (a := 1) (b := 32) rfl (cat_size (a := 16) (b := 16) (BV_size _) (BV_size _))) (by omega)) (cat_xr (a := 1) (o' := 16) rfl (by omega) (cat_xr (a := 16) (o' := 0) (BV_size _) (by omega) (ext_all (BV_size _)))) rfl ?_
      refine cv cf95 hS rfl rfl rfl rfl rfl (sp_mooringref06_Encrypt (key) ((xorV (crO key nonce (n / 16)) (star key))) _) ?_
      intro w hS
      refine ala zr22 hS rfl rfl ?_
      intro b13 w hb13 hS
      refine sa 0 ag22 hS rfl rfl rfl (BV_one _) rfl (BV_size _) (BV_size _) ?_
      intro w hS
      refine wq_then ?_
      refine wc_seq ?_
      refine rg ?_
      refine mv rfl rfl rfl ?_
      refine muli (by omega) (by omega) rfl rfl rfl rfl ?_
      refine asg rfl rfl rfl ?_
      refine wq_then ?_
      refine wc_block ?_
      refine wc_loop (σ := (Nat × Option Addr × Nat × List (Nat × Obj))) (fun u => [(2, .slice a n cap), (6, Ptr b6 0), (8, Ptr b8 0), (9, I (((n : Nat) : Int) / 16)), (13, Ptr b13 0), (14, I (((16 * (n / 16) + u.1 : Nat) : Int)))])
        (fun u w => (16 * (n / 16) + u.1 ≤ n ∧ Own 1 u.2.1 (n / 16 * 16 + u.1) u.2.2.1 (c8 (crT key nonce bs (n / 16) ++ tlL bs (16 * (n / 16)) (enc key (xorV (crO key nonce (n / 16)) (star key))) u.1)) u.2.2.2) ∧ St w0 [] ([(b13, .cells (BV (enc key (xorV (crO key nonce (n / 16)) (star key)))) 22), (b8, .cells (#[.slice u.2.1 (n / 16 * 16 + u.1) u.2.2.1] ++ (BV (crC bs (n / 16)) ++ BV (xorV (crO key nonce (n / 16)) (star key)))) 114), (b7, .cells (BV (star key)) 22), (b6, .cells (#[(.slice none 0 0)] ++ (BV (Vector.replicate 16 0) ++ BV (Vector.replicate 16 0))) 114), (b4, .cells (BV nonce) 81), (b3, .cells (BV (expand key) ++ BV sboxV) 48)] ++ (u.2.2.2 ++ [])) w) (fun u => n - (16 * (n / 16) + u.1)) (0, s.2.1, s.2.2.1, s.2.2.2) ⟨rfl, rfl, rfl, rfl, rfl, rfl, trivial⟩ ⟨⟨by omega, by simpa [tlL] using hO⟩, hS⟩ ?_
      rintro u w ⟨⟨hm, hO⟩, hS⟩
      refine wc_seq ?_
      refine rg ?_
      refine mv rfl rfl rfl ?_
      refine mv rfl rfl rfl ?_
      refine lens Tryz.underlying25 rfl rfl rfl ?_
      refine lss rfl rfl rfl rfl ?_
      refine wq_then ?_
      refine wc_if rfl (fun hc3 => ?_) (fun hc3 => ?_)
      · skip
        try simp only [SB] at hc3
        refine wc_skip ?_
        refine wq_then ?_
        refine wc_seq ?_
        refine wc_block ?_
        refine wc_draw mo 15 (fun w => St w0 [] [(b13, .cells (BV (enc key (xorV (crO key nonce (n / 16)) (star key)))) 22), (b8, .cells (#[.slice u.2.1 (n / 16 * 16 + u.1) u.2.2.1] ++ (BV (crC bs (n / 16)) ++ BV (xorV (crO key nonce (n / 16)) (star key)))) 114), (b7, .cells (BV (star key)) 22), (b6, .cells (#[(.slice none 0 0)] ++ (BV (Vector.replicate 16 0) ++ BV (Vector.replicate 16 0))) 114), (b4, .cells (BV nonce) 81), (b3, .cells (BV (expand key) ++ BV sboxV) 48)] w) ?_
        have hS := hS.drew
        refine dq 0 rfl (by kernel_rfl) (by kernel_rfl) (by kernel_rfl) rfl rfl (fun w hS => fan (0) (0) Tryz.underlying114 rfl sz25 (by decide) rfl rfl rfl rfl (by omega) ⟨rfl, rfl⟩) (hS.sublist (.cons_cons _ (.cons_cons _ (.cons_cons _ (.cons_cons _ (.cons_cons _ (.cons_cons _ (List.nil_sublist _)))))))) ?_
        refine dq 1 rfl (by kernel_rfl) (by kernel_rfl) (by kernel_rfl) rfl rfl (fun w hS => lo 1 sc25 hS rfl rfl rfl rfl (cat_l (a := 1) rfl (by omega) rfl) ⟨rfl, rfl⟩) (hS.sublist (.cons_cons _ (.cons_cons _ (.cons_cons _ (.cons_cons _ (.cons_cons _ (.cons_cons _ (List.nil_sublist _)))))))) ?_
        refine dq 2 rfl (by kernel_rfl) (by kernel_rfl) (by kernel_rfl) rfl rfl (fun w hS => mv rfl rfl rfl ⟨rfl, rfl⟩) (hS.sublist (.cons_cons _ (.cons_cons _ (.cons_cons _ (.cons_cons _ (.cons_cons _ (.cons_cons _ (List.nil_sublist _)))))))) ?_
        refine dq 3 rfl (by kernel_rfl) (by kernel_rfl) (by kernel_rfl) rfl rfl (fun w hS => mv rfl rfl rfl ⟨rfl, rfl⟩) (hS.sublist (.cons_cons _ (.cons_cons _ (.cons_cons _ (.cons_cons _ (.cons_cons _ (.cons_cons _ (List.nil_sublist _)))))))) ?_
        refine dq 4 rfl (by kernel_rfl) (by kernel_rfl) (by kernel_rfl) rfl rfl (fun w hS => slx (16 * (n / 16) + u.1) Tryz.underlying25 sz5 rfl rfl rfl rfl (by omega) (by omega) ((hc.st hS).some8 (j := 16 * (n / 16) + u.1) (by first | omega | (simp; done) | (simp; omega))) ⟨rfl, rfl⟩) (hS.sublist (.cons_cons _ (.cons_cons _ (.cons_cons _ (.cons_cons _ (.cons_cons _ (.cons_cons _ (List.nil_sublist _)))))))) ?_
        refine dq 5 rfl (by kernel_rfl) (by kernel_rfl) (by kernel_rfl) rfl rfl (fun w hS => ldx sc5 rfl rfl rfl (hc.st hS) (by first | omega | (simp; done) | (simp; omega)) ⟨rfl, rfl⟩) (hS.sublist (.cons_cons _ (.cons_cons _ (.cons_cons _ (.cons_cons _ (.cons_cons _ (.cons_cons _ (List.nil_sublist _)))))))) ?_
        refine dq 6 rfl (by kernel_rfl) (by kernel_rfl) (by kernel_rfl) rfl rfl (fun w hS => mv rfl rfl rfl ⟨rfl, rfl⟩) (hS.sublist (.cons_cons _ (.cons_cons _ (.cons_cons _ (.cons_cons _ (.cons_cons _ (.cons_cons _ (List.nil_sublist _)))))))) ?_
        refine dq 7 rfl (by kernel_rfl) (by kernel_rfl) (by kernel_rfl) rfl rfl (fun w hS => mv rfl rfl rfl ⟨rfl, rfl⟩) (hS.sublist (.cons_cons _ (.cons_cons _ (.cons_cons _ (.cons_cons _ (.cons_cons _ (.cons_cons _ (List.nil_sublist _)))))))) ?_
        refine dq 8 rfl (by kernel_rfl) (by kernel_rfl) (by kernel_rfl) rfl rfl (fun w hS => muli (by omega) (by omega) rfl rfl rfl rfl ⟨rfl, rfl⟩) (hS.sublist (.cons_cons _ (.cons_cons _ (.cons_cons _ (.cons_cons _ (.cons_cons _ (.cons_cons _ (List.nil_sublist _)))))))) ?_
        refine dq 9 rfl (by kernel_rfl) (by kernel_rfl) (by kernel_rfl) rfl rfl (fun w hS => subi (by omega) (by omega) rfl rfl rfl rfl ⟨rfl, rfl⟩) (hS.sublist (.cons_cons _ (.cons_cons _ (.cons_cons _ (.cons_cons _ (.cons_cons _ (.cons_cons _ (List.nil_sublist _)))))))) ?_
        refine dq 10 rfl (by kernel_rfl) (by kernel_rfl) (by kernel_rfl) rfl rfl (fun w hS => ian ((16 * (n / 16) + u.1) - (16 * (n / 16))) (((16 * (n / 16) + u.1) - (16 * (n / 16)))) Tryz.underlying22 sz5 rfl rfl rfl rfl (by omega) (by omega) (by omega) ⟨rfl, rfl⟩) (hS.sublist (.cons_cons _ (.cons_cons _ (.cons_cons _ (.cons_cons _ (.cons_cons _ (.cons_cons _ (List.nil_sublist _)))))))) ?_
        refine dq 11 rfl (by kernel_rfl) (by kernel_rfl) (by kernel_rfl) rfl rfl (fun w hS => lo 0 sc5 hS rfl rfl rfl rfl (BV_get _ ((16 * (n / 16) + u.1) - (16 * (n / 16))) (by omega)) ⟨rfl, rfl⟩) (hS.sublist (.cons_cons _ (.cons_cons _ (.cons_cons _ (.cons_cons _ (.cons_cons _ (.cons_cons _ (List.nil_sublist _)))))))) ?_
        refine dq 12 rfl (by kernel_rfl) (by kernel_rfl) (by kernel_rfl) rfl rfl (fun w hS => xor8 rfl rfl rfl rfl ⟨rfl, rfl⟩) (hS.sublist (.cons_cons _ (.cons_cons _ (.cons_cons _ (.cons_cons _ (.cons_cons _ (.cons_cons _ (List.nil_sublist _)))))))) ?_
        refine dl 13 rfl (by kernel_rfl) ?_
        refine bsl (cs := #[U8 ((gl bs (16 * (n / 16) + u.1)) ^^^ (gv (enc key (xorV (crO key nonce (n / 16)) (star key))) ((16 * (n / 16) + u.1) - (16 * (n / 16)))))]) sl25 hS rfl rfl rfl rfl (by kernel_rfl) ?_
        intro b94 w hb94 hS
        refine ⟨fun _ => (hS.sublist (.cons _ (.cons_cons _ (.cons_cons _ (.cons_cons _ (.cons_cons _ (.cons_cons _ (.cons_cons _ (List.nil_sublist _))))))))), ?_⟩
        refine dl 14 rfl (by kernel_rfl) ?_
        refine app (A := [(b94, .cells (#[U8 ((gl bs (16 * (n / 16) + u.1)) ^^^ (gv (enc key (xorV (crO key nonce (n / 16)) (star key))) ((16 * (n / 16) + u.1) - (16 * (n / 16)))))]) 5), (b13, .cells (BV (enc key (xorV (crO key nonce (n / 16)) (star key)))) 22), (b8, .cells (#[.slice u.2.1 (n / 16 * 16 + u.1) u.2.2.1] ++ (BV (crC bs (n / 16)) ++ BV (xorV (crO key nonce (n / 16)) (star key)))) 114), (b7, .cells (BV (star key)) 22), (b6, .cells (#[(.slice none 0 0)] ++ (BV (Vector.replicate 16 0) ++ BV (Vector.replicate 16 0))) 114), (b4, .cells (BV nonce) 81), (b3, .cells (BV (expand key) ++ BV sboxV) 48)]) (R := []) sl25 hO hS rfl rfl rfl rfl (src8 Tryz.underlying25 _ (Cel.lb (l := [(gl bs (16 * (n / 16) + u.1)) ^^^ (gv (enc key (xorV (crO key nonce (n / 16)) (star key))) ((16 * (n / 16) + u.1) - (16 * (n / 16))))]) (hS.get 0 rfl)) (by first | rfl | omega | (simp; omega) | (simp; done))) (by omega) (by omega) ?_
        intro a95 c95 X95 w hO95 hS
        try simp only [c8_app] at hO95
        refine ⟨fun _ => (hS.sublist (.cons _ (.cons_cons _ (.cons_cons _ (.cons_cons _ (.cons_cons _ (.cons_cons _ (.cons_cons _ (List.nil_sublist _))))))))), ?_⟩
        refine dl 15 rfl (by kernel_rfl) ?_
        refine fan (0) (0) Tryz.underlying114 rfl sz25 (by decide) rfl rfl rfl rfl (by omega) ?_
        refine ⟨fun h => (by cases h), ?_⟩
        refine dl 16 rfl (by kernel_rfl) ?_
        refine st 2 sz25 hS rfl rfl rfl rfl rfl rfl (lt_sz (a := 33) (cat_size (a := 1) (b := 32) rfl (cat_size (a := 16) (b := 16) (BV_size _) (BV_size _))) (by omega)) (cat_sl (a := 1) rfl (by omega) rfl) ?_
        intro w hS
        refine ⟨fun h => (by cases h), ?_⟩
        refine de (by kernel_rfl) ?_
        refine q_block_norm ?_
        refine wq_then ?_
        refine wc_region ?_
        refine mv rfl rfl rfl ?_
        refine addi (by omega) (by omega) rfl rfl rfl rfl ?_
        refine asg rfl rfl rfl ?_
        refine again_q (u.1 + 1, a95, c95, X95) ⟨rfl, rfl, rfl, rfl, rfl, lkI rfl (by first | omega | rfl), trivial⟩ ⟨⟨by omega, by have h := hO95; rw [List.append_assoc] at h; exact h⟩, hS.tl⟩ (by omega)
      · skip
        try simp only [SB] at hc3
        refine wc_exit ?_
        refine q_then_exit ?_
        refine q_then_exit ?_
        refine q_block_hit ?_
        refine wq_then ?_
        refine wc_draw mo 8 (fun w => St w0 [] ([(b13, .cells (BV (enc key (xorV (crO key nonce (n / 16)) (star key)))) 22), (b8, .cells (#[.slice u.2.1 (n / 16 * 16 + u.1) u.2.2.1] ++ (BV (crC bs (n / 16)) ++ BV (xorV (crO key nonce (n / 16)) (star key)))) 114), (b7, .cells (BV (star key)) 22), (b6, .cells (#[(.slice none 0 0)] ++ (BV (Vector.replicate 16 0) ++ BV (Vector.replicate 16 0))) 114), (b4, .cells (BV nonce) 81), (b3, .cells (BV (expand key) ++ BV sboxV) 48)] ++ (u.2.2.2 ++ [])) w) ?_
        have hS := hS.drew
        refine dq 0 rfl (by kernel_rfl) (by kernel_rfl) (by kernel_rfl) rfl rfl (fun w hS => fan (1) (1) Tryz.underlying114 rfl sz22 (by decide) rfl rfl rfl rfl (by omega) ⟨rfl, rfl⟩) hS ?_
        refine dq 1 rfl (by kernel_rfl) (by kernel_rfl) (by kernel_rfl) rfl rfl (fun w hS => lp (u := .agg (BV (crC bs (n / 16)))) 1 ag22 hS rfl rfl rfl rfl (le_sz (a := 33) (cat_size (a := 1) (b := 32) rfl (cat_size (a := 16) (b := 16) (BV_size _) (BV_size _))) (by omega)) (cat_xr (a := 1) (o' := 0) rfl (by omega) (cat_xl (a := 16) (BV_size _) (by omega) (ext_all (BV_size _)))) rfl ⟨rfl, rfl⟩) hS ?_
        refine dq 2 rfl (by kernel_rfl) (by kernel_rfl) (by kernel_rfl) rfl rfl (fun w hS => mv rfl rfl rfl ⟨rfl, rfl⟩) hS ?_
        refine dq 3 rfl (by kernel_rfl) (by kernel_rfl) (by kernel_rfl) rfl rfl (fun w hS => mv rfl rfl rfl ⟨rfl, rfl⟩) hS ?_
        refine dq 4 rfl (by kernel_rfl) (by kernel_rfl) (by kernel_rfl) rfl rfl (fun w hS => muli (by omega) (by omega) rfl rfl rfl rfl ⟨rfl, rfl⟩) hS ?_
        refine dq 5 rfl (by kernel_rfl) (by kernel_rfl) (by kernel_rfl) rfl rfl (fun w hS => s_l (16 * (n / 16)) Tryz.underlying25 sz5 rfl rfl rfl rfl (by omega) (by omega) ⟨rfl, rfl⟩) hS ?_
        refine dl 6 rfl (by kernel_rfl) ?_
        refine cv cf96 hS rfl rfl rfl rfl rfl (sp_mooringref08_Pad ((sla a (16 * (n / 16)) cap)) ((n - (16 * (n / 16)))) ((cap - (16 * (n / 16)))) (((bs).drop (16 * (n / 16)))) _ (by first | rfl | omega | (simp; omega) | (simp; done)) (by omega) ((hc.st hS).drop8 (lo := 16 * (n / 16)) (cap := cap) (by first | omega | (simp; omega) | simp)) (by omega)) ?_
        intro w hS
        refine ⟨fun _ => hS, ?_⟩
        refine dl 7 rfl (by kernel_rfl) ?_
        refine cv cf93 hS rfl rfl rfl rfl rfl (sp_mooringref08_Xor ((crC bs (n / 16))) ((padV ((bs).drop (16 * (n / 16))))) _) ?_
        intro w hS
        refine ⟨fun _ => hS, ?_⟩
        refine dl 8 rfl (by kernel_rfl) ?_
        refine fan (1) (1) Tryz.underlying114 rfl sz22 (by decide) rfl rfl rfl rfl (by omega) ?_
        refine ⟨fun h => (by cases h), ?_⟩
        refine dl 9 rfl (by kernel_rfl) ?_
        refine spp (cs' := #[.slice u.2.1 (n / 16 * 16 + u.1) u.2.2.1] ++ (BV (xorV (crC bs (n / 16)) (padV ((bs).drop (16 * (n / 16))))) ++ BV (xorV (crO key nonce (n / 16)) (star key)))) 1 ag22 hS rfl rfl rfl (BV_one _) rfl (le_sz (a := 33) (cat_size (a := 1) (b := 32) rfl (cat_size (a := 16) (b := 16) (BV_size _) (BV_size _))) (by omega)) (BV_size _) (cat_pr (a := 1) (o' := 0) rfl (by omega) (ple2 (BV_size _) (cat_size (a := 16) (b := 16) (BV_size _) (BV_size _)) (by omega)) (cat_pl (a := 16) (BV_size _) (ple (BV_size _) (by omega)) (put_all (BV_size _) (BV_size _)))) ?_
        intro w hS
        refine ⟨fun h => (by cases h), ?_⟩
        refine de (by kernel_rfl) ?_
        refine wq_then ?_
        refine rg ?_
        refine la 1 ag114 hS rfl rfl rfl rfl (cat_size (a := 1) (b := 32) rfl (cat_size (a := 16) (b := 16) (BV_size _) (BV_size _))) ?_
        refine sa 3 ag114 hS rfl rfl rfl (cat_one (by first | rfl | kernel_rfl | (simp [Value.oneCell'])) (cat_one (BV_one _) (BV_one _))) rfl (cat_size (a := 1) (b := 32) rfl (cat_size (a := 16) (b := 16) (BV_size _) (BV_size _))) (cat_size (a := 1) (b := 32) rfl (cat_size (a := 16) (b := 16) (BV_size _) (BV_size _))) ?_
        intro w hS
        refine wq_then ?_
        refine wc_ret ?_
        refine fin1 (v := .agg (#[.slice u.2.1 (n / 16 * 16 + u.1) u.2.2.1] ++ (BV (xorV (crC bs (n / 16)) (padV ((bs).drop (16 * (n / 16))))) ++ BV (xorV (crO key nonce (n / 16)) (star key))))) rfl ⟨_, rfl, lv_a ag114 (hS.get 3 rfl) (cat_size (a := 1) (b := 32) rfl (cat_size (a := 16) (b := 16) (BV_size _) (BV_size _)))⟩ ?_
        have hm2 : u.1 = n - 16 * (n / 16) := by omega
        have e : n / 16 * 16 + (n - 16 * (n / 16)) = n := by omega
        rw [hm2, e, cryT_1 hn h16] at hO
        exact ⟨_, _, rfl, ⟨_, _, by rw [hm2, e, cryC_1 hn h16, cryO_1 h16], hO⟩, hS.sublist (.cons _ (.cons _ (.cons _ (.cons _ (.cons _ (.cons _ (List.sublist_append_left u.2.2.2 [])))))))⟩
    · skip
      try simp only [SB] at hc2
      have h16 : ¬ 0 < n % 16 := by omega
      refine wc_skip ?_
      refine wq_then ?_
      refine rg ?_
      refine la 0 ag114 hS rfl rfl rfl rfl (cat_size (a := 1) (b := 32) rfl (cat_size (a := 16) (b := 16) (BV_size _) (BV_size _))) ?_
      refine sa 2 ag114 hS rfl rfl rfl (cat_one (by first | rfl | kernel_rfl | (simp [Value.oneCell'])) (cat_one (BV_one _) (BV_one _))) rfl (cat_size (a := 1) (b := 32) rfl (cat_size (a := 16) (b := 16) (BV_size _) (BV_size _))) (cat_size (a := 1) (b := 32) rfl (cat_size (a := 16) (b := 16) (BV_size _) (BV_size _))) ?_
      intro w hS
      refine wq_then ?_
      refine wc_ret ?_
      refine fin1 (v := .agg (#[.slice s.2.1 (n / 16 * 16) s.2.2.1] ++ (BV (crC bs (n / 16)) ++ BV (crO key nonce (n / 16))))) rfl ⟨_, rfl, lv_a ag114 (hS.get 2 rfl) (cat_size (a := 1) (b := 32) rfl (cat_size (a := 16) (b := 16) (BV_size _) (BV_size _)))⟩ ?_
      have e : n / 16 * 16 = n := by omega
      rw [e, cryT_0 hn h16] at hO
      exact ⟨_, _, rfl, ⟨_, _, by rw [e, cryC_0 hn h16, cryO_0 h16], hO⟩, hS.sublist (.cons _ (.cons _ (.cons _ (.cons _ (.cons _ (List.sublist_append_left s.2.2.2 []))))))⟩
end Go.Proofs.XZ

/- walks -/
namespace Go.Proofs.XZ
open Go Go.X Go.Proofs
set_option maxRecDepth 100000 in
theorem sp_mooringref11_Sum (key : V8 16) (a : Option Addr) (n cap : Nat) (bs : List UInt8) (w0 : World) (hn : bs.length = n) (hN : n ≤ 1000000) (hc : Cel w0 a (c8 bs)) (hcap : n ≤ cap) (h4 : n ≤ 4000) : Calls Tryz.prog 98 #[.agg (BV (expand key) ++ BV sboxV), .slice a n cap] w0 (Ret w0 (.agg (BV (hashV key bs)))) := by
  refine enter (args := [.agg (BV (expand key) ++ BV sboxV), .slice a n cap]) Tryz.func98 rfl rfl ?_
  refine startw fun w hS => ?_
  refine rg ?_
  refine bxa hS rfl rfl rfl ?_
  intro b2 w hb2 hS
  refine ala zr22 hS rfl rfl ?_
  intro b4 w hb4 hS
  refine wq_then ?_
  refine rg ?_
  refine la 1 ag48 hS rfl rfl rfl rfl (cat_size (a := 176) (b := 256) (BV_size _) (BV_size _)) ?_
  refine cv cf90 hS rfl rfl rfl rfl rfl (sp_mooringref09_Star (key) _) ?_
  intro w hS
  refine ala zr22 hS rfl rfl ?_
  intro b5 w hb5 hS
  refine sa 0 ag22 hS rfl rfl rfl (BV_one _) rfl (BV_size _) (BV_size _) ?_
  intro w hS
  refine wq_then ?_
  refine rg ?_
  refine ala zr22 hS rfl rfl ?_
  intro b6 w hb6 hS
  refine wq_then ?_
  refine rg ?_
  refine ala zr22 hS rfl rfl ?_
  intro b7 w hb7 hS
  refine wq_then ?_
  refine rg ?_
  refine mv rfl rfl rfl ?_
  refine lens Tryz.underlying25 rfl rfl rfl ?_
  refine quoi (by omega) (by omega) (by omega) rfl rfl rfl rfl ?_
  refine asg rfl rfl rfl ?_
  refine wq_then ?_
  refine wc_seq ?_
  refine rg ?_
  refine asg rfl rfl rfl ?_
  refine wq_then ?_
  refine wc_block ?_
  refine wc_loop (σ := Nat) (fun k => [(1, .slice a n cap), (2, Ptr b2 0), (4, Ptr b4 0), (5, Ptr b5 0), (6, Ptr b6 0), (7, Ptr b7 0), (8, I (((n : Nat) : Int) / 16)), (9, I ((k : Int)))])
    (fun k w => (k ≤ n / 16) ∧ St w0 [] [(b7, .cells (BV ((sumL key bs k).2)) 22), (b6, .cells (BV ((sumL key bs k).1)) 22), (b5, .cells (BV (star key)) 22), (b4, .cells (BV (Vector.replicate 16 0)) 22), (b2, .cells (BV (expand key) ++ BV sboxV) 48)] w) (fun k => n / 16 - k) 0 ⟨rfl, rfl, rfl, rfl, rfl, rfl, rfl, rfl, trivial⟩ ⟨by omega, hS⟩ ?_
  rintro k w ⟨hk, hS⟩
  refine wc_seq ?_
  refine rg ?_
  refine mv rfl rfl rfl ?_
  refine mv rfl rfl rfl ?_
  refine lss rfl rfl rfl rfl ?_
  refine wq_then ?_
  refine wc_if rfl (fun hc1 => ?_) (fun hc1 => ?_)
  · skip
    try simp only [SB] at hc1
    refine wc_skip ?_
    refine wq_then ?_
    refine wc_seq ?_
    refine wc_block ?_
    refine rd mo 7 (fun w => St w0 [] [(b7, .cells (BV ((sumL key bs k).2)) 22), (b6, .cells (BV ((sumL key bs k).1)) 22), (b5, .cells (BV (star key)) 22), (b4, .cells (BV (Vector.replicate 16 0)) 22), (b2, .cells (BV (expand key) ++ BV sboxV) 48)] w) ?_
    have hS := hS.drew
    refine dq 0 rfl (by kernel_rfl) (by kernel_rfl) (by kernel_rfl) rfl rfl (fun w hS => la 0 ag22 hS rfl rfl rfl rfl (BV_size _) ⟨rfl, rfl⟩) hS ?_
    refine dq 1 rfl (by kernel_rfl) (by kernel_rfl) (by kernel_rfl) rfl rfl (fun w hS => la 2 ag22 hS rfl rfl rfl rfl (BV_size _) ⟨rfl, rfl⟩) hS ?_
    refine dq 2 rfl (by kernel_rfl) (by kernel_rfl) (by kernel_rfl) rfl rfl (fun w hS => mv rfl rfl rfl ⟨rfl, rfl⟩) hS ?_
    refine dq 3 rfl (by kernel_rfl) (by kernel_rfl) (by kernel_rfl) rfl rfl (fun w hS => addi (by omega) (by omega) rfl rfl rfl rfl ⟨rfl, rfl⟩) hS ?_
    refine dq 4 rfl (by kernel_rfl) (by kernel_rfl) (by kernel_rfl) rfl rfl (fun w hS => cvu64 Tryz.underlying23 ⟨_, Tryz.underlying3⟩ rfl rfl rfl ⟨rfl, rfl⟩) hS ?_
    refine dl 5 rfl (by kernel_rfl) ?_
    refine cv cf94 hS rfl rfl rfl rfl rfl (sp_mooringref09_For (key) (k + 1) ((star key)) ((toU64 ((k : Int) + 1))) _ rfl rfl (by omega) (by omega)) ?_
    intro w hS
    refine ⟨fun _ => hS, ?_⟩
    refine dl 6 rfl (by kernel_rfl) ?_
    refine cv (v := .agg (BV ((sumL key bs (k + 1)).2))) cf93 hS rfl rfl rfl rfl rfl (sp_mooringref08_Xor (((sumL key bs k).2)) ((forN key (toU64 ((k + 1 : Nat) : Int)))) _) ?_
    intro w hS
    refine ⟨fun _ => hS, ?_⟩
    refine dl 7 rfl (by kernel_rfl) ?_
    refine sa 0 ag22 hS rfl rfl rfl (BV_one _) rfl (BV_size _) (BV_size _) ?_
    intro w hS
    refine ⟨fun h => (by cases h), ?_⟩
    refine de (by kernel_rfl) ?_
    refine wq_then ?_
    refine wc_draw mo 9 (fun w => St w0 [] [(b7, .cells (BV ((sumL key bs (k + 1)).2)) 22), (b6, .cells (BV ((sumL key bs k).1)) 22), (b5, .cells (BV (star key)) 22), (b4, .cells (BV (Vector.replicate 16 0)) 22), (b2, .cells (BV (expand key) ++ BV sboxV) 48)] w) ?_
    have hS := hS.drew
    refine dq 0 rfl (by kernel_rfl) (by kernel_rfl) (by kernel_rfl) rfl rfl (fun w hS => la 1 ag22 hS rfl rfl rfl rfl (BV_size _) ⟨rfl, rfl⟩) hS ?_
    refine dq 1 rfl (by kernel_rfl) (by kernel_rfl) (by kernel_rfl) rfl rfl (fun w hS => la 4 ag48 hS rfl rfl rfl rfl (cat_size (a := 176) (b := 256) (BV_size _) (BV_size _)) ⟨rfl, rfl⟩) hS ?_
    refine dq 2 rfl (by kernel_rfl) (by kernel_rfl) (by kernel_rfl) rfl rfl (fun w hS => mv rfl rfl rfl ⟨rfl, rfl⟩) hS ?_
    refine dq 3 rfl (by kernel_rfl) (by kernel_rfl) (by kernel_rfl) rfl rfl (fun w hS => mv rfl rfl rfl ⟨rfl, rfl⟩) hS ?_
    refine dq 5 rfl (by kernel_rfl) (by kernel_rfl) (by kernel_rfl) rfl rfl (fun w hS => la 0 ag22 hS rfl rfl rfl rfl (BV_size _) ⟨rfl, rfl⟩) hS ?_
    refine dl 4 rfl (by kernel_rfl) ?_
    refine cv cf92 hS rfl rfl rfl rfl rfl (sp_mooringref08_Part (a) (n) (cap) (bs) (k) _ _ (by omega) (by first | rfl | omega | (simp; omega) | (simp; done)) (by omega) (hc.st hS) (by omega) (by omega)) ?_
    intro w hS
    refine ⟨fun _ => hS, ?_⟩
    refine dl 6 rfl (by kernel_rfl) ?_
    refine cv cf93 hS rfl rfl rfl rfl rfl (sp_mooringref08_Xor ((blk bs k)) (((sumL key bs (k + 1)).2)) _) ?_
    intro w hS
    refine ⟨fun _ => hS, ?_⟩
    refine dl 7 rfl (by kernel_rfl) ?_
    refine cv cf95 hS rfl rfl rfl rfl rfl (sp_mooringref06_Encrypt (key) ((xorV (blk bs k) ((sumL key bs (k + 1)).2))) _) ?_
    intro w hS
    refine ⟨fun _ => hS, ?_⟩
    refine dl 8 rfl (by kernel_rfl) ?_
    refine cv (v := .agg (BV ((sumL key bs (k + 1)).1))) cf93 hS rfl rfl rfl rfl rfl (sp_mooringref08_Xor (((sumL key bs k).1)) ((enc key (xorV (blk bs k) ((sumL key bs (k + 1)).2)))) _) ?_
    intro w hS
    refine ⟨fun _ => hS, ?_⟩
    refine dl 9 rfl (by kernel_rfl) ?_
    refine sa 1 ag22 hS rfl rfl rfl (BV_one _) rfl (BV_size _) (BV_size _) ?_
    intro w hS
    refine ⟨fun h => (by cases h), ?_⟩
    refine de (by kernel_rfl) ?_
    refine q_block_norm ?_
    refine wq_then ?_
    refine wc_region ?_
    refine mv rfl rfl rfl ?_
    refine addi (by omega) (by omega) rfl rfl rfl rfl ?_
    refine asg rfl rfl rfl ?_
    refine again_q (k + 1) ⟨rfl, rfl, rfl, rfl, rfl, rfl, rfl, lkI rfl (by first | omega | rfl), trivial⟩ ⟨by omega, hS⟩ (by omega)
  · skip
    try simp only [SB] at hc1
    have hk4 : k = n / 16 := by omega
    rw [hk4] at hS
    refine wc_exit ?_
    refine q_then_exit ?_
    refine q_then_exit ?_
    refine q_block_hit ?_
    refine wq_then ?_
    refine wc_seq ?_
    refine rg ?_
    refine mv rfl rfl rfl ?_
    refine lens Tryz.underlying25 rfl rfl rfl ?_
    refine remi (by omega) (by omega) rfl rfl rfl rfl ?_
    refine gtr rfl rfl rfl rfl ?_
    refine wq_then ?_
    refine wc_if rfl (fun hc2 => ?_) (fun hc2 => ?_)
    · skip
      try simp only [SB] at hc2
      have h16 : 0 < n % 16 := by omega
      refine rd mo 10 (fun w => St w0 [] [(b7, .cells (BV ((sumL key bs (n / 16)).2)) 22), (b6, .cells (BV ((sumL key bs (n / 16)).1)) 22), (b5, .cells (BV (star key)) 22), (b4, .cells (BV (Vector.replicate 16 0)) 22), (b2, .cells (BV (expand key) ++ BV sboxV) 48)] w) ?_
      have hS := hS.drew
      refine dq 0 rfl (by kernel_rfl) (by kernel_rfl) (by kernel_rfl) rfl rfl (fun w hS => mv rfl rfl rfl ⟨rfl, rfl⟩) hS ?_
      refine dq 1 rfl (by kernel_rfl) (by kernel_rfl) (by kernel_rfl) rfl rfl (fun w hS => mv rfl rfl rfl ⟨rfl, rfl⟩) hS ?_
      refine dq 2 rfl (by kernel_rfl) (by kernel_rfl) (by kernel_rfl) rfl rfl (fun w hS => muli (by omega) (by omega) rfl rfl rfl rfl ⟨rfl, rfl⟩) hS ?_
      refine dq 3 rfl (by kernel_rfl) (by kernel_rfl) (by kernel_rfl) rfl rfl (fun w hS => s_l (16 * (n / 16)) Tryz.underlying25 sz5 rfl rfl rfl rfl (by omega) (by omega) ⟨rfl, rfl⟩) hS ?_
      refine dq 5 rfl (by kernel_rfl) (by kernel_rfl) (by kernel_rfl) rfl rfl (fun w hS => la 0 ag22 hS rfl rfl rfl rfl (BV_size _) ⟨rfl, rfl⟩) hS ?_
      refine dq 6 rfl (by kernel_rfl) (by kernel_rfl) (by kernel_rfl) rfl rfl (fun w hS => la 2 ag22 hS rfl rfl rfl rfl (BV_size _) ⟨rfl, rfl⟩) hS ?_
      refine dl2 4 9 rfl rfl (by kernel_rfl) ?_ ?_
      · skip
        refine cv cf96 hS rfl rfl rfl rfl rfl (sp_mooringref08_Pad ((sla a (16 * (n / 16)) cap)) ((n - (16 * (n / 16)))) ((cap - (16 * (n / 16)))) (((bs).drop (16 * (n / 16)))) _ (by first | rfl | omega | (simp; omega) | (simp; done)) (by omega) ((hc.st hS).drop8 (lo := 16 * (n / 16)) (cap := cap) (by first | omega | (simp; omega) | simp)) (by omega)) ?_
        intro w hS
        refine ⟨fun _ => hS, ?_⟩
        refine dl2 7 9 rfl rfl (by kernel_rfl) ?_ ?_
        · skip
          refine cv cf93 hS rfl rfl rfl rfl rfl (sp_mooringref08_Xor (((sumL key bs (n / 16)).2)) ((star key)) _) ?_
          intro w hS
          refine ⟨fun _ => hS, ?_⟩
          refine dl2 8 9 rfl rfl (by kernel_rfl) ?_ ?_
          · skip
            refine cv cf93 hS rfl rfl rfl rfl rfl (sp_mooringref08_Xor ((padV ((bs).drop (16 * (n / 16))))) ((xorV ((sumL key bs (n / 16)).2) (star key))) _) ?_
            intro w hS
            refine ⟨fun _ => hS, ?_⟩
            refine dl 9 rfl (by kernel_rfl) ?_
            refine ala zr22 hS rfl rfl ?_
            intro b10 w hb10 hS
            refine ⟨fun _ => hS.tl, ?_⟩
            refine dl 10 rfl (by kernel_rfl) ?_
            refine sa 0 ag22 hS rfl rfl rfl (BV_one _) rfl (BV_size _) (BV_size _) ?_
            intro w hS
            refine ⟨fun h => (by cases h), ?_⟩
            refine de (by kernel_rfl) ?_
            refine wq_then ?_
            refine wc_draw mo 5 (fun w => St w0 [] [(b10, .cells (BV (xorV (padV ((bs).drop (16 * (n / 16)))) (xorV ((sumL key bs (n / 16)).2) (star key)))) 22), (b7, .cells (BV ((sumL key bs (n / 16)).2)) 22), (b6, .cells (BV ((sumL key bs (n / 16)).1)) 22), (b5, .cells (BV (star key)) 22), (b4, .cells (BV (Vector.replicate 16 0)) 22), (b2, .cells (BV (expand key) ++ BV sboxV) 48)] w) ?_
            have hS := hS.drew
            refine dq 0 rfl (by kernel_rfl) (by kernel_rfl) (by kernel_rfl) rfl rfl (fun w hS => la 2 ag22 hS rfl rfl rfl rfl (BV_size _) ⟨rfl, rfl⟩) hS ?_
            refine dq 1 rfl (by kernel_rfl) (by kernel_rfl) (by kernel_rfl) rfl rfl (fun w hS => la 5 ag48 hS rfl rfl rfl rfl (cat_size (a := 176) (b := 256) (BV_size _) (BV_size _)) ⟨rfl, rfl⟩) hS ?_
            refine dq 2 rfl (by kernel_rfl) (by kernel_rfl) (by kernel_rfl) rfl rfl (fun w hS => la 0 ag22 hS rfl rfl rfl rfl (BV_size _) ⟨rfl, rfl⟩) hS ?_
            refine dl 3 rfl (by kernel_rfl) ?_
            refine cv cf95 hS rfl rfl rfl rfl rfl (sp_mooringref06_Encrypt (key) ((xorV (padV ((bs).drop (16 * (n / 16)))) (xorV ((sumL key bs (n / 16)).2) (star key)))) _) ?_
            intro w hS
            refine ⟨fun _ => hS, ?_⟩
            refine dl 4 rfl (by kernel_rfl) ?_
            refine cv cf93 hS rfl rfl rfl rfl rfl (sp_mooringref08_Xor (((sumL key bs (n / 16)).1)) ((enc key (xorV (padV ((bs).drop (16 * (n / 16)))) (xorV ((sumL key bs (n / 16)).2) (star key))))) _) ?_
            intro w hS
            refine ⟨fun _ => hS, ?_⟩
            refine dl 5 rfl (by kernel_rfl) ?_
            refine sa 2 ag22 hS rfl rfl rfl (BV_one _) rfl (BV_size _) (BV_size _) ?_
            intro w hS
            refine ⟨fun h => (by cases h), ?_⟩
            refine de (by kernel_rfl) ?_
            refine wq_then ?_
            refine rg ?_
            refine la 2 ag22 hS rfl rfl rfl rfl (BV_size _) ?_
            refine sa 4 ag22 hS rfl rfl rfl (BV_one _) rfl (BV_size _) (BV_size _) ?_
            intro w hS
            refine wq_then ?_
            refine wc_ret ?_
            refine fin1 (v := .agg (BV (xorV ((sumL key bs (n / 16)).1) (enc key (xorV (padV ((bs).drop (16 * (n / 16)))) (xorV ((sumL key bs (n / 16)).2) (star key))))))) rfl ⟨_, rfl, lv_a ag22 (hS.get 4 rfl) (BV_size _)⟩ ?_
            refine ⟨?_, hS.drop⟩
            rw [← hash_1 hn h16]
          · skip
            refine ala zr22 hS rfl rfl ?_
            intro b10 w hb10 hS
            refine ⟨fun _ => hS.tl, ?_⟩
            refine dl 8 rfl (by kernel_rfl) ?_
            refine cv cf93 hS rfl rfl rfl rfl rfl (sp_mooringref08_Xor ((padV ((bs).drop (16 * (n / 16))))) ((xorV ((sumL key bs (n / 16)).2) (star key))) _) ?_
            intro w hS
            refine ⟨fun _ => hS.tl, ?_⟩
            refine dl 10 rfl (by kernel_rfl) ?_
            refine sa 0 ag22 hS rfl rfl rfl (BV_one _) rfl (BV_size _) (BV_size _) ?_
            intro w hS
            refine ⟨fun h => (by cases h), ?_⟩
            refine de (by kernel_rfl) ?_
            refine wq_then ?_
            refine wc_draw mo 5 (fun w => St w0 [] [(b10, .cells (BV (xorV (padV ((bs).drop (16 * (n / 16)))) (xorV ((sumL key bs (n / 16)).2) (star key)))) 22), (b7, .cells (BV ((sumL key bs (n / 16)).2)) 22), (b6, .cells (BV ((sumL key bs (n / 16)).1)) 22), (b5, .cells (BV (star key)) 22), (b4, .cells (BV (Vector.replicate 16 0)) 22), (b2, .cells (BV (expand key) ++ BV sboxV) 48)] w) ?_
            have hS := hS.drew
            refine dq 0 rfl (by kernel_rfl) (by kernel_rfl) (by kernel_rfl) rfl rfl (fun w hS => la 2 ag22 hS rfl rfl rfl rfl (BV_size _) ⟨rfl, rfl⟩) hS ?_
            refine dq 1 rfl (by kernel_rfl) (by kernel_rfl) (by kernel_rfl) rfl rfl (fun w hS => la 5 ag48 hS rfl rfl rfl rfl (cat_size (a := 176) (b := 256) (BV_size _) (BV_size _)) ⟨rfl, rfl⟩) hS ?_
            refine dq 2 rfl (by kernel_rfl) (by kernel_rfl) (by kernel_rfl) rfl rfl (fun w hS => la 0 ag22 hS rfl rfl rfl rfl (BV_size _) ⟨rfl, rfl⟩) hS ?_
            refine dl 3 rfl (by kernel_rfl) ?_
            refine cv cf95 hS rfl rfl rfl rfl rfl (sp_mooringref06_Encrypt (key) ((xorV (padV ((bs).drop (16 * (n / 16)))) (xorV ((sumL key bs (n / 16)).2) (star key)))) _) ?_
            intro w hS
            refine ⟨fun _ => hS, ?_⟩
            refine dl 4 rfl (by kernel_rfl) ?_
            refine cv cf93 hS rfl rfl rfl rfl rfl (sp_mooringref08_Xor (((sumL key bs (n / 16)).1)) ((enc key (xorV (padV ((bs).drop (16 * (n / 16)))) (xorV ((sumL key bs (n / 16)).2) (star key))))) _) ?_
            intro w hS
            refine ⟨fun _ => hS, ?_⟩
            refine dl 5 rfl (by kernel_rfl) ?_
            refine sa 2 ag22 hS rfl rfl rfl (BV_one _) rfl (BV_size _) (BV_size _) ?_
            intro w hS
            refine ⟨fun h => (by cases h), ?_⟩
            refine de (by kernel_rfl) ?_
            refine wq_then ?_
            refine rg ?_
            refine la 2 ag22 hS rfl rfl rfl rfl (BV_size _) ?_
            refine sa 4 ag22 hS rfl rfl rfl (BV_one _) rfl (BV_size _) (BV_size _) ?_
            intro w hS
            refine wq_then ?_
            refine wc_ret ?_
            refine fin1 (v := .agg (BV (xorV ((sumL key bs (n / 16)).1) (enc key (xorV (padV ((bs).drop (16 * (n / 16)))) (xorV ((sumL key bs (n / 16)).2) (star key))))))) rfl ⟨_, rfl, lv_a ag22 (hS.get 4 rfl) (BV_size _)⟩ ?_
            refine ⟨?_, hS.drop⟩
            rw [← hash_1 hn h16]
        · skip
          refine ala zr22 hS rfl rfl ?_
          intro b10 w hb10 hS
          refine ⟨fun _ => hS.tl, ?_⟩
          refine dl 7 rfl (by kernel_rfl) ?_
          refine cv cf93 hS rfl rfl rfl rfl rfl (sp_mooringref08_Xor (((sumL key bs (n / 16)).2)) ((star key)) _) ?_
          intro w hS
          refine ⟨fun _ => hS.tl, ?_⟩
          refine dl 8 rfl (by kernel_rfl) ?_
          refine cv cf93 hS rfl rfl rfl rfl rfl (sp_mooringref08_Xor ((padV ((bs).drop (16 * (n / 16))))) ((xorV ((sumL key bs (n / 16)).2) (star key))) _) ?_
          intro w hS
          refine ⟨fun _ => hS.tl, ?_⟩
          refine dl 10 rfl (by kernel_rfl) ?_
          refine sa 0 ag22 hS rfl rfl rfl (BV_one _) rfl (BV_size _) (BV_size _) ?_
          intro w hS
          refine ⟨fun h => (by cases h), ?_⟩
          refine de (by kernel_rfl) ?_
          refine wq_then ?_
          refine wc_draw mo 5 (fun w => St w0 [] [(b10, .cells (BV (xorV (padV ((bs).drop (16 * (n / 16)))) (xorV ((sumL key bs (n / 16)).2) (star key)))) 22), (b7, .cells (BV ((sumL key bs (n / 16)).2)) 22), (b6, .cells (BV ((sumL key bs (n / 16)).1)) 22), (b5, .cells (BV (star key)) 22), (b4, .cells (BV (Vector.replicate 16 0)) 22), (b2, .cells (BV (expand key) ++ BV sboxV) 48)] w) ?_
          have hS := hS.drew
          refine dq 0 rfl (by kernel_rfl) (by kernel_rfl) (by kernel_rfl) rfl rfl (fun w hS => la 2 ag22 hS rfl rfl rfl rfl (BV_size _) ⟨rfl, rfl⟩) hS ?_
          refine dq 1 rfl (by kernel_rfl) (by kernel_rfl) (by kernel_rfl) rfl rfl (fun w hS => la 5 ag48 hS rfl rfl rfl rfl (cat_size (a := 176) (b := 256) (BV_size _) (BV_size _)) ⟨rfl, rfl⟩) hS ?_
          refine dq 2 rfl (by kernel_rfl) (by kernel_rfl) (by kernel_rfl) rfl rfl (fun w hS => la 0 ag22 hS rfl rfl rfl rfl (BV_size _) ⟨rfl, rfl⟩) hS ?_
          refine dl 3 rfl (by kernel_rfl) ?_
          refine cv cf95 hS rfl rfl rfl rfl rfl (sp_mooringref06_Encrypt (key) ((xorV (padV ((bs).drop (16 * (n / 16)))) (xorV ((sumL key bs (n / 16)).2) (star key)))) _) ?_
          intro w hS
          refine ⟨fun _ => hS, ?_⟩
          refine dl 4 rfl (by kernel_rfl) ?_
          refine cv cf93 hS rfl rfl rfl rfl rfl (sp_mooringref08_Xor (((sumL key bs (n / 16)).1)) ((enc key (xorV (padV ((bs).drop (16 * (n / 16)))) (xorV ((sumL key bs (n / 16)).2) (star key))))) _) ?_
          intro w hS
          refine ⟨fun _ => hS, ?_⟩
          refine dl 5 rfl (by kernel_rfl) ?_
          refine sa 2 ag22 hS rfl rfl rfl (BV_one _) rfl (BV_size _) (BV_size _) ?_
          intro w hS
          refine ⟨fun h => (by cases h), ?_⟩
          refine de (by kernel_rfl) ?_
          refine wq_then ?_
          refine rg ?_
          refine la 2 ag22 hS rfl rfl rfl rfl (BV_size _) ?_
          refine sa 4 ag22 hS rfl rfl rfl (BV_one _) rfl (BV_size _) (BV_size _) ?_
          intro w hS
          refine wq_then ?_
          refine wc_ret ?_
          refine fin1 (v := .agg (BV (xorV ((sumL key bs (n / 16)).1) (enc key (xorV (padV ((bs).drop (16 * (n / 16)))) (xorV ((sumL key bs (n / 16)).2) (star key))))))) rfl ⟨_, rfl, lv_a ag22 (hS.get 4 rfl) (BV_size _)⟩ ?_
          refine ⟨?_, hS.drop⟩
          rw [← hash_1 hn h16]
      · skip
        refine ala zr22 hS rfl rfl ?_
        intro b10 w hb10 hS
        refine ⟨fun _ => hS.tl, ?_⟩
        refine dl 4 rfl (by kernel_rfl) ?_
        refine cv cf96 hS rfl rfl rfl rfl rfl (sp_mooringref08_Pad ((sla a (16 * (n / 16)) cap)) ((n - (16 * (n / 16)))) ((cap - (16 * (n / 16)))) (((bs).drop (16 * (n / 16)))) _ (by first | rfl | omega | (simp; omega) | (simp; done)) (by omega) ((hc.st hS).drop8 (lo := 16 * (n / 16)) (cap := cap) (by first | omega | (simp; omega) | simp)) (by omega)) ?_
        intro w hS
        refine ⟨fun _ => hS.tl, ?_⟩
        refine dl 7 rfl (by kernel_rfl) ?_
        refine cv cf93 hS rfl rfl rfl rfl rfl (sp_mooringref08_Xor (((sumL key bs (n / 16)).2)) ((star key)) _) ?_
        intro w hS
        refine ⟨fun _ => hS.tl, ?_⟩
        refine dl 8 rfl (by kernel_rfl) ?_
        refine cv cf93 hS rfl rfl rfl rfl rfl (sp_mooringref08_Xor ((padV ((bs).drop (16 * (n / 16))))) ((xorV ((sumL key bs (n / 16)).2) (star key))) _) ?_
        intro w hS
        refine ⟨fun _ => hS.tl, ?_⟩
        refine dl 10 rfl (by kernel_rfl) ?_
        refine sa 0 ag22 hS rfl rfl rfl (BV_one _) rfl (BV_size _) (BV_size _) ?_
        intro w hS
        refine ⟨fun h => (by cases h), ?_⟩
        refine de (by kernel_rfl) ?_
        refine wq_then ?_
        refine wc_draw mo 5 (fun w => St w0 [] [(b10, .cells (BV (xorV (padV ((bs).drop (16 * (n / 16)))) (xorV ((sumL key bs (n / 16)).2) (star key)))) 22), (b7, .cells (BV ((sumL key bs (n / 16)).2)) 22), (b6, .cells (BV ((sumL key bs (n / 16)).1)) 22), (b5, .cells (BV (star key)) 22), (b4, .cells (BV (Vector.replicate 16 0)) 22), (b2, .cells (BV (expand key) ++ BV sboxV) 48)] w) ?_
        have hS := hS.drew
        refine dq 0 rfl (by kernel_rfl) (by kernel_rfl) (by kernel_rfl) rfl rfl (fun w hS => la 2 ag22 hS rfl rfl rfl rfl (BV_size _) ⟨rfl, rfl⟩) hS ?_
        refine dq 1 rfl (by kernel_rfl) (by kernel_rfl) (by kernel_rfl) rfl rfl (fun w hS => la 5 ag48 hS rfl rfl rfl rfl (cat_size (a := 176) (b := 256) (BV_size _) (BV_size _)) ⟨rfl, rfl⟩) hS ?_
        refine dq 2 rfl (by kernel_rfl) (by kernel_rfl) (by kernel_rfl) rfl rfl (fun w hS => la 0 ag22 hS rfl rfl rfl rfl (BV_size _) ⟨rfl, rfl⟩) hS ?_
        refine dl 3 rfl (by kernel_rfl) ?_
        refine cv cf95 hS rfl rfl rfl rfl rfl (sp_mooringref06_Encrypt (key) ((xorV (padV ((bs).drop (16 * (n / 16)))) (xorV ((sumL key bs (n / 16)).2) (star key)))) _) ?_
        intro w hS
        refine ⟨fun _ => hS, ?_⟩
        refine dl 4 rfl (by kernel_rfl) ?_
        refine cv cf93 hS rfl rfl rfl rfl rfl (sp_mooringref08_Xor (((sumL key bs (n / 16)).1)) ((enc key (xorV (padV ((bs).drop (16 * (n / 16)))) (xorV ((sumL key bs (n / 16)).2) (star key))))) _) ?_
        intro w hS
        refine ⟨fun _ => hS, ?_⟩
        refine dl 5 rfl (by kernel_rfl) ?_
        refine sa 2 ag22 hS rfl rfl rfl (BV_one _) rfl (BV_size _) (BV_size _) ?_
        intro w hS
        refine ⟨fun h => (by cases h), ?_⟩
        refine de (by kernel_rfl) ?_
        refine wq_then ?_
        refine rg ?_
        refine la 2 ag22 hS rfl rfl rfl rfl (BV_size _) ?_
        refine sa 4 ag22 hS rfl rfl rfl (BV_one _) rfl (BV_size _) (BV_size _) ?_
        intro w hS
        refine wq_then ?_
        refine wc_ret ?_
        refine fin1 (v := .agg (BV (xorV ((sumL key bs (n / 16)).1) (enc key (xorV (padV ((bs).drop (16 * (n / 16)))) (xorV ((sumL key bs (n / 16)).2) (star key))))))) rfl ⟨_, rfl, lv_a ag22 (hS.get 4 rfl) (BV_size _)⟩ ?_
        refine ⟨?_, hS.drop⟩
        rw [← hash_1 hn h16]
    · skip
      try simp only [SB] at hc2
      have h16 : ¬ 0 < n % 16 := by omega
      refine wc_skip ?_
      refine wq_then ?_
      refine rg ?_
      refine la 1 ag22 hS rfl rfl rfl rfl (BV_size _) ?_
      refine sa 3 ag22 hS rfl rfl rfl (BV_one _) rfl (BV_size _) (BV_size _) ?_
      intro w hS
      refine wq_then ?_
      refine wc_ret ?_
      refine fin1 (v := .agg (BV ((sumL key bs (n / 16)).1))) rfl ⟨_, rfl, lv_a ag22 (hS.get 3 rfl) (BV_size _)⟩ ?_
      refine ⟨?_, hS.drop⟩
      rw [← hash_0 hn h16]
end Go.Proofs.XZ

/- walks -/
namespace Go.Proofs.XZ
open Go Go.X Go.Proofs
set_option maxRecDepth 100000 in
theorem sp_mooringref12_Tag (key ck off : V8 16) (a2 : Option Addr) (n2 cap2 : Nat) (a : Option Addr) (n cap : Nat) (bs : List UInt8) (w0 : World) (hn : bs.length = n) (hN : n ≤ 1000000) (hc : Cel w0 a (c8 bs)) (hcap : n ≤ cap) (h4 : n ≤ 4000) : Calls Tryz.prog 61 #[.agg (BV (expand key) ++ BV sboxV), .agg (#[.slice a2 n2 cap2] ++ (BV ck ++ BV off)), .slice a n cap] w0 (Ret w0 (.agg (BV (tagV key ck off bs)))) := by
  refine enter Tryz.func61 rfl rfl ?_
  refine startw fun w hS => ?_
  refine rg ?_
  refine bxa hS rfl rfl rfl ?_
  intro b3 w hb3 hS
  refine bxa hS rfl rfl rfl ?_
  intro b4 w hb4 hS
  refine ala zr22 hS rfl rfl ?_
  intro b6 w hb6 hS
  refine wq_then ?_
  refine rg ?_
  refine fan (1) (1) Tryz.underlying114 rfl sz22 (by decide) rfl rfl rfl rfl (by omega) ?_
  refine lp (u := .agg (BV ck)) 1 ag22 hS rfl rfl rfl rfl (le_sz (a := 33) (cat_size (a := 1) (b := 32) rfl (cat_size (a := 16) (b := 16) (BV_size _) (BV_size _))) (by omega)) (cat_xr (a := 1) (o' := 0) rfl (by omega) (cat_xl (a := 16) (BV_size _) (by omega) (ext_all (BV_size _)))) rfl ?_
  refine fan (17) (17) Tryz.underlying114 rfl sz22 (by decide) rfl rfl rfl rfl (by omega) ?_
  refine lp (u := .agg (BV off)) 1 ag22 hS rfl rfl rfl rfl (le_sz (a := 33) (cat_size (a := 1) (b := 32) rfl (cat_size (a := 16) (b := 16) (BV_size _) (BV_size _))) (by omega)) (cat_xr (a := 1) (o' := 16) rfl (by omega) (cat_xr (a := 16) (o' := 0) (BV_size _) (by omega) (ext_all (BV_size _)))) rfl ?_
  refine cv cf93 hS rfl rfl rfl rfl rfl (sp_mooringref08_Xor (ck) (off) _) ?_
  intro w hS
  refine ala zr22 hS rfl rfl ?_
  intro b7 w hb7 hS
  refine sa 0 ag22 hS rfl rfl rfl (BV_one _) rfl (BV_size _) (BV_size _) ?_
  intro w hS
  refine wq_then ?_
  refine rd mo 5 (fun w => St w0 [] [(b7, .cells (BV (xorV ck off)) 22), (b6, .cells (BV (Vector.replicate 16 0)) 22), (b4, .cells (#[.slice a2 n2 cap2] ++ (BV ck ++ BV off)) 114), (b3, .cells (BV (expand key) ++ BV sboxV) 48)] w) ?_
  have hS := hS.drew
  refine dq 0 rfl (by kernel_rfl) (by kernel_rfl) (by kernel_rfl) rfl rfl (fun w hS => la 0 ag22 hS rfl rfl rfl rfl (BV_size _) ⟨rfl, rfl⟩) hS ?_
  refine dq 1 rfl (by kernel_rfl) (by kernel_rfl) (by kernel_rfl) rfl rfl (fun w hS => la 3 ag48 hS rfl rfl rfl rfl (cat_size (a := 176) (b := 256) (BV_size _) (BV_size _)) ⟨rfl, rfl⟩) hS ?_
  refine dl 2 rfl (by kernel_rfl) ?_
  refine cv cf90 hS rfl rfl rfl rfl rfl (sp_mooringref09_Star (key) _) ?_
  intro w hS
  refine ⟨fun _ => hS, ?_⟩
  refine dl 3 rfl (by kernel_rfl) ?_
  refine cv cf97 hS rfl rfl rfl rfl rfl (sp_mooringref08_Double ((star key)) _) ?_
  intro w hS
  refine ⟨fun _ => hS, ?_⟩
  refine dl 4 rfl (by kernel_rfl) ?_
  refine cv cf93 hS rfl rfl rfl rfl rfl (sp_mooringref08_Xor ((xorV ck off)) ((dblB (star key))) _) ?_
  intro w hS
  refine ⟨fun _ => hS, ?_⟩
  refine dl 5 rfl (by kernel_rfl) ?_
  refine sa 0 ag22 hS rfl rfl rfl (BV_one _) rfl (BV_size _) (BV_size _) ?_
  intro w hS
  refine ⟨fun h => (by cases h), ?_⟩
  refine de (by kernel_rfl) ?_
  refine wq_then ?_
  refine rd mo 7 (fun w => St w0 [] [(b7, .cells (BV (xorV (xorV ck off) (dblB (star key)))) 22), (b6, .cells (BV (Vector.replicate 16 0)) 22), (b4, .cells (#[.slice a2 n2 cap2] ++ (BV ck ++ BV off)) 114), (b3, .cells (BV (expand key) ++ BV sboxV) 48)] w) ?_
  have hS := hS.drew
  refine dq 0 rfl (by kernel_rfl) (by kernel_rfl) (by kernel_rfl) rfl rfl (fun w hS => la 3 ag48 hS rfl rfl rfl rfl (cat_size (a := 176) (b := 256) (BV_size _) (BV_size _)) ⟨rfl, rfl⟩) hS ?_
  refine dq 1 rfl (by kernel_rfl) (by kernel_rfl) (by kernel_rfl) rfl rfl (fun w hS => la 0 ag22 hS rfl rfl rfl rfl (BV_size _) ⟨rfl, rfl⟩) hS ?_
  refine dq 3 rfl (by kernel_rfl) (by kernel_rfl) (by kernel_rfl) rfl rfl (fun w hS => la 3 ag48 hS rfl rfl rfl rfl (cat_size (a := 176) (b := 256) (BV_size _) (BV_size _)) ⟨rfl, rfl⟩) hS ?_
  refine dq 4 rfl (by kernel_rfl) (by kernel_rfl) (by kernel_rfl) rfl rfl (fun w hS => mv rfl rfl rfl ⟨rfl, rfl⟩) hS ?_
  refine dl 2 rfl (by kernel_rfl) ?_
  refine cv cf95 hS rfl rfl rfl rfl rfl (sp_mooringref06_Encrypt (key) ((xorV (xorV ck off) (dblB (star key)))) _) ?_
  intro w hS
  refine ⟨fun _ => hS, ?_⟩
  refine dl 5 rfl (by kernel_rfl) ?_
  refine cv cf98 hS rfl rfl rfl rfl rfl (sp_mooringref11_Sum (key) (a) (n) (cap) (bs) _ (by first | rfl | omega | (simp; omega) | (simp; done)) (by omega) (hc.st hS) (by omega) (by omega)) ?_
  intro w hS
  refine ⟨fun _ => hS, ?_⟩
  refine dl 6 rfl (by kernel_rfl) ?_
  refine cv cf93 hS rfl rfl rfl rfl rfl (sp_mooringref08_Xor ((enc key (xorV (xorV ck off) (dblB (star key))))) ((hashV key bs)) _) ?_
  intro w hS
  refine ⟨fun _ => hS, ?_⟩
  refine dl 7 rfl (by kernel_rfl) ?_
  refine sa 1 ag22 hS rfl rfl rfl (BV_one _) rfl (BV_size _) (BV_size _) ?_
  intro w hS
  refine ⟨fun h => (by cases h), ?_⟩
  refine de (by kernel_rfl) ?_
  refine wq_then ?_
  refine wc_ret ?_
  refine fin1 (v := .agg (BV (xorV (enc key (xorV (xorV ck off) (dblB (star key)))) (hashV key bs)))) rfl ⟨_, rfl, lv_a ag22 (hS.get 1 rfl) (BV_size _)⟩ ?_
  refine ⟨?_, hS.drop⟩
  rw [tag_eq]
end Go.Proofs.XZ

/- walks -/
namespace Go.Proofs.XZ
open Go Go.X Go.Proofs
set_option maxRecDepth 100000 in
theorem sp_mooringref12_Seal (key : V8 16) (nonce : V8 12) (a : Option Addr) (n cap : Nat) (bs : List UInt8) (a2 : Option Addr) (n2 cap2 : Nat) (bs2 : List UInt8) (w0 : World) (hn : bs.length = n) (hN : n ≤ 1000000) (hc : Cel w0 a (c8 bs)) (hcap : n ≤ cap) (h4 : n ≤ 4000) (hn2 : bs2.length = n2) (hN2 : n2 ≤ 1000000) (he2 : Cel w0 a2 (c8 bs2)) (hcap2 : n2 ≤ cap2) (h42 : n2 ≤ 4000) : Calls Tryz.prog 38 #[.agg (BV (expand key) ++ BV sboxV), .agg (BV nonce), .slice a2 n2 cap2, .slice a n cap] w0 (RetS w0 (fun v X => ∃ a' c', v = .slice a' (n + 16) c' ∧ Own 1 a' (n + 16) c' (c8 (sealV key nonce bs2 bs)) X)) := by
  refine enter (args := [.agg (BV (expand key) ++ BV sboxV), .agg (BV nonce), .slice a2 n2 cap2, .slice a n cap]) Tryz.func38 rfl rfl ?_
  refine startw fun w hS => ?_
  refine rg ?_
  refine bxa hS rfl rfl rfl ?_
  intro b4 w hb4 hS
  refine bxa hS rfl rfl rfl ?_
  intro b5 w hb5 hS
  refine asg rfl rfl rfl ?_
  refine wq_then ?_
  refine rg ?_
  refine la 1 ag48 hS rfl rfl rfl rfl (cat_size (a := 176) (b := 256) (BV_size _) (BV_size _)) ?_
  refine la 0 ag81 hS rfl rfl rfl rfl (BV_size _) ?_
  refine mv rfl rfl rfl ?_
  refine cs cf60 hS rfl rfl rfl rfl rfl (sp_mooringref12_Crypt (key) (nonce) (a) (n) (cap) (bs) _ (by first | rfl | omega | (simp; omega) | (simp; done)) (by omega) (hc.st hS) (by omega) (by omega)) ?_
  rintro _ X14 w ⟨a14, c14, rfl, hO14⟩ hS
  have hS := St.tailin (X := X14) hS [(b5, .cells (BV nonce) 81), (b4, .cells (BV (expand key) ++ BV sboxV) 48)] [] rfl
  refine ala zr114 hS rfl rfl ?_
  intro b9 w hb9 hS
  refine sa 0 ag114 hS rfl rfl rfl (cat_one (by first | rfl | kernel_rfl | (simp [Value.oneCell'])) (cat_one (BV_one _) (BV_one _))) rfl (cat_size (a := 1) (b := 32) rfl (cat_size (a := 16) (b := 16) (BV_size _) (BV_size _))) (cat_size (a := 1) (b := 32) rfl (cat_size (a := 16) (b := 16) (BV_size _) (BV_size _))) ?_
  intro w hS
  refine wq_then ?_
  refine rg ?_
  refine la 2 ag48 hS rfl rfl rfl rfl (cat_size (a := 176) (b := 256) (BV_size _) (BV_size _)) ?_
  refine la 0 ag114 hS rfl rfl rfl rfl (cat_size (a := 1) (b := 32) rfl (cat_size (a := 16) (b := 16) (BV_size _) (BV_size _))) ?_
  refine mv rfl rfl rfl ?_
  refine cv cf61 hS rfl rfl rfl rfl rfl (sp_mooringref12_Tag (key) ((cryC bs)) ((cryO key nonce n)) (a14) (n) (c14) (a2) (n2) (cap2) (bs2) _ (by first | rfl | omega | (simp; omega) | (simp; done)) (by omega) (he2.st hS) (by omega) (by omega)) ?_
  intro w hS
  refine ala zr22 hS rfl rfl ?_
  intro b10 w hb10 hS
  refine sa 0 ag22 hS rfl rfl rfl (BV_one _) rfl (BV_size _) (BV_size _) ?_
  intro w hS
  refine wq_then ?_
  refine rd mo 4 (fun w => St w0 [] [(b10, .cells (BV (tagV key (cryC bs) (cryO key nonce n) bs2)) 22), (b9, .cells (#[.slice a14 n c14] ++ (BV (cryC bs) ++ BV (cryO key nonce n))) 114), (b5, .cells (BV nonce) 81), (b4, .cells (BV (expand key) ++ BV sboxV) 48)] w) ?_
  have hS := hS.drew
  refine dq 0 rfl (by kernel_rfl) (by kernel_rfl) (by kernel_rfl) rfl rfl (fun w hS => fan (0) (0) Tryz.underlying114 rfl sz25 (by decide) rfl rfl rfl rfl (by omega) ⟨rfl, rfl⟩) (hS.sublist (.cons_cons _ (.cons_cons _ (.cons_cons _ (.cons_cons _ (List.nil_sublist _)))))) ?_
  refine dq 1 rfl (by kernel_rfl) (by kernel_rfl) (by kernel_rfl) rfl rfl (fun w hS => lo 1 sc25 hS rfl rfl rfl rfl (cat_l (a := 1) rfl (by omega) rfl) ⟨rfl, rfl⟩) (hS.sublist (.cons_cons _ (.cons_cons _ (.cons_cons _ (.cons_cons _ (List.nil_sublist _)))))) ?_
  refine dq 2 rfl (by kernel_rfl) (by kernel_rfl) (by kernel_rfl) rfl rfl (fun w hS => a_all Tryz.underlying22 ⟨_, sz5⟩ rfl rfl rfl ⟨rfl, rfl⟩) (hS.sublist (.cons_cons _ (.cons_cons _ (.cons_cons _ (.cons_cons _ (List.nil_sublist _)))))) ?_
  refine dl 3 rfl (by kernel_rfl) ?_
  refine app (A := [(b10, .cells (BV (tagV key (cryC bs) (cryO key nonce n) bs2)) 22), (b9, .cells (#[.slice a14 n c14] ++ (BV (cryC bs) ++ BV (cryO key nonce n))) 114), (b5, .cells (BV nonce) 81), (b4, .cells (BV (expand key) ++ BV sboxV) 48)]) (R := []) sl25 hO14 hS rfl rfl rfl rfl (src8 Tryz.underlying25 _ (Cel.bv (hS.get 0 rfl)) Vector.length_toList) (by omega) (by omega) ?_
  intro a22 c22 X22 w hO22 hS
  try simp only [c8_app] at hO22
  refine ⟨fun _ => (hS.sublist (.cons_cons _ (.cons_cons _ (.cons_cons _ (.cons_cons _ (List.nil_sublist _)))))), ?_⟩
  refine dl 4 rfl (by kernel_rfl) ?_
  refine asg rfl rfl rfl ?_
  refine ⟨fun h => (by cases h), ?_⟩
  refine de (by kernel_rfl) ?_
  refine wq_then ?_
  refine wc_ret ?_
  refine fin1 (v := .slice a22 (n + 16) c22) rfl rfl ?_
  exact ⟨_, _, rfl, ⟨_, _, rfl, by rw [sealV, hn]; exact hO22⟩, hS.sublist (.cons _ (.cons _ (.cons _ (.cons _ (List.sublist_append_left X22 [])))))⟩
end Go.Proofs.XZ

/- walks -/
namespace Go.Proofs.XZ
open Go Go.X Go.Proofs
set_option maxRecDepth 100000 in
theorem sp_mooringref01_Bytes (x : UInt64) (n : Nat) (n_ : Int) (w0 : World) (hn_ : n_ = (n : Int)) (hn : n ≤ 8) : Calls Tryz.prog 59 #[U64 x, I n_] w0 (RetS w0 (fun v X => ∃ a' c', v = .slice a' n c' ∧ Own 1 a' n c' (c8 (bytesL x n)) X)) := by
  subst hn_
  refine enter (args := [U64 x, I (n : Int)]) Tryz.func59 rfl rfl ?_
  refine startw fun w hS => ?_
  refine rg ?_
  refine asg rfl rfl rfl ?_
  refine wq_then ?_
  refine rg ?_
  refine asg rfl rfl rfl ?_
  refine wq_then ?_
  refine wc_seq ?_
  refine rg ?_
  refine asg rfl rfl rfl ?_
  refine wq_then ?_
  refine wc_block ?_
  refine wc_loop (σ := (Nat × Option Addr × Nat × List (Nat × Obj))) (fun s => [(0, U64 (byX x s.1)), (1, I ((n : Int))), (4, (.slice none 0 0)), (5, .slice s.2.1 s.1 s.2.2.1), (6, I ((s.1 : Int)))])
    (fun s w => (s.1 ≤ n ∧ Own 1 s.2.1 s.1 s.2.2.1 (c8 (bytesL x s.1)) s.2.2.2) ∧ St w0 [] ([] ++ (s.2.2.2 ++ [])) w) (fun s => n - s.1) (0, none, 0, []) ⟨rfl, rfl, rfl, rfl, rfl, trivial⟩ ⟨⟨by omega, Own.nil 1⟩, (by simpa using hS)⟩ ?_
  rintro s w ⟨⟨hk, hO⟩, hS⟩
  refine wc_seq ?_
  refine rg ?_
  refine mv rfl rfl rfl ?_
  refine mv rfl rfl rfl ?_
  refine lss rfl rfl rfl rfl ?_
  refine mv rfl rfl rfl ?_
  refine spl 10 rfl (fun hb1 => ?_) (fun hb1 => ?_)
  · skip
    try simp only [SB] at hb1
    refine mv rfl rfl rfl ?_
    refine lss rfl rfl rfl rfl ?_
    refine pk_t rfl rfl rfl rfl ?_
    refine wq_then ?_
    refine wc_if rfl (fun hc1 => ?_) (fun hc1 => ?_)
    · skip
      try simp only [SB] at hc1
      refine wc_skip ?_
      refine wq_then ?_
      refine wc_seq ?_
      refine wc_block ?_
      refine rg ?_
      refine mv rfl rfl rfl ?_
      refine rem64 (q := (256 : UInt64)) (by decide) rfl rfl rfl rfl ?_
      refine cvu8 Tryz.underlying5 ⟨_, Tryz.underlying23⟩ rfl rfl rfl ?_
      refine bsl (cs := #[U8 (toU8 ((((byX x s.1) % 256).toNat : Int)))]) sl25 hS rfl rfl rfl rfl (by kernel_rfl) ?_
      intro b19 w hb19 hS
      refine mv rfl rfl rfl ?_
      refine app (A := []) (X := [(b19, .cells (#[U8 (toU8 ((((byX x s.1) % 256).toNat : Int)))]) 5)]) (R := (s.2.2.2 ++ [])) sl25 (Own.blk (n := 1) rfl (by decide)) (St.toend (A := [(b19, .cells (#[U8 (toU8 ((((byX x s.1) % 256).toNat : Int)))]) 5)]) (R := (s.2.2.2 ++ [])) hS 0 rfl) rfl rfl rfl rfl (src8 Tryz.underlying25 _ (hO.cel hS (fun p hp => by simp [hp])) hO.len8) (by omega) (by omega) ?_
      intro a21 c21 X21 w hO21 hS
      have hO21 : Own _ a21 (1 + s.1) c21 (c8 (([toU8 ((((byX x s.1) % 256).toNat : Int))]) ++ (bytesL x s.1))) X21 := hO21
      refine asg rfl rfl rfl ?_
      refine wq_then ?_
      refine wc_region ?_
      refine mv rfl rfl rfl ?_
      refine quo64 (q := (256 : UInt64)) (by decide) rfl rfl rfl rfl ?_
      refine asg rfl rfl rfl ?_
      refine q_block_norm ?_
      refine wq_then ?_
      refine wc_region ?_
      refine mv rfl rfl rfl ?_
      refine addi (by omega) (by omega) rfl rfl rfl rfl ?_
      refine asg rfl rfl rfl ?_
      rw [Nat.add_comm 1 s.1]
      refine again_q (s.1 + 1, a21, c21, X21) ⟨rfl, rfl, rfl, rfl, lkI rfl (by first | omega | rfl), trivial⟩ ⟨⟨by omega, by have h := hO21; rw [Nat.add_comm, by_cons] at h; exact h⟩, St.drop2 (A := []) hS⟩ (by omega)
    · skip
      try simp only [SB] at hc1
      refine wc_exit ?_
      refine q_then_exit ?_
      refine q_then_exit ?_
      refine q_block_hit ?_
      refine wq_then ?_
      refine rg ?_
      refine mv rfl rfl rfl ?_
      refine asg rfl rfl rfl ?_
      refine wq_then ?_
      refine wc_ret ?_
      refine fin1 (v := .slice s.2.1 s.1 s.2.2.1) rfl rfl ?_
      have hk4 : s.1 = n := by omega
      rw [hk4] at hO
      exact ⟨_, _, rfl, ⟨_, _, by rw [hk4], hO⟩, by simpa using hS⟩
  · skip
    try simp only [SB] at hb1
    refine no rfl rfl ?_
    refine no rfl rfl ?_
    refine pk_f rfl rfl rfl rfl ?_
    refine wq_then ?_
    refine wc_if_f rfl ?_
    refine wc_exit ?_
    refine q_then_exit ?_
    refine q_then_exit ?_
    refine q_block_hit ?_
    refine wq_then ?_
    refine rg ?_
    refine mv rfl rfl rfl ?_
    refine asg rfl rfl rfl ?_
    refine wq_then ?_
    refine wc_ret ?_
    refine fin1 (v := .slice s.2.1 s.1 s.2.2.1) rfl rfl ?_
    have hk4 : s.1 = n := by omega
    rw [hk4] at hO
    exact ⟨_, _, rfl, ⟨_, _, by rw [hk4], hO⟩, by simpa using hS⟩
end Go.Proofs.XZ

/- walks -/
namespace Go.Proofs.XZ
open Go Go.X Go.Proofs
set_option maxRecDepth 100000 in
theorem sp_mooringref15_Head (d : Nat) (s : UInt64) (d_ : Int) (w0 : World) (hd_ : d_ = (d : Int)) (hd : d ≤ 1) (hs : s.toNat ≤ 9223372036854775807) : Calls Tryz.prog 37 #[I d_, U64 s] w0 (Ret w0 (.agg (BV (headV d s)))) := by
  subst hd_
  refine enter (args := [I (d : Int), U64 s]) Tryz.func37 rfl rfl ?_
  refine startw fun w hS => ?_
  refine rg ?_
  refine ala zr74 hS rfl rfl ?_
  intro b4 w hb4 hS
  refine wq_then ?_
  refine rg ?_
  refine mv rfl rfl rfl ?_
  refine asg rfl rfl rfl ?_
  refine wq_then ?_
  refine wc_seq ?_
  refine rg ?_
  refine mv rfl rfl rfl ?_
  refine eqi rfl rfl rfl rfl ?_
  refine wq_then ?_
  refine wc_if rfl (fun hc1 => ?_) (fun hc1 => ?_)
  · skip
    try simp only [SB] at hc1
    have hd1 : d = 1 := by omega
    refine wc_region ?_
    refine mv rfl rfl rfl ?_
    refine add64 (q := (9223372036854775808 : UInt64)) rfl rfl rfl rfl ?_
    refine asg rfl rfl rfl ?_
    refine wq_then ?_
    refine rg ?_
    refine mv rfl rfl rfl ?_
    refine cs cf59 hS rfl rfl rfl rfl rfl (sp_mooringref01_Bytes ((s + 9223372036854775808)) (8) _ _ (by omega) (by omega)) ?_
    rintro _ X12 w ⟨a12, c12, rfl, hO12⟩ hS
    have hS := St.tailin (X := X12) hS [(b4, .cells (BV (Vector.replicate 8 0)) 74)] [] rfl
    have hle12 := hO12.len8
    have hle13 := hO12.le
    refine s2b Tryz.underlying74 rfl rfl rfl (by omega) ((hO12.cel hS (fun p hp => by simp [hp])).some8 (j := 0) (by first | omega | (simp; omega) | simp)) ?_
    refine ld rfl rfl rfl (lv_celj 0 ag74 (hO12.cel hS (fun p hp => by simp [hp])) (by first | omega | (simp; done) | (simp; omega)) (by omega)) ?_
    refine sa 0 ag74 hS rfl rfl rfl (BV_one _) rfl (BV_size _) (BV_size _) ?_
    intro w hS
    refine wq_then ?_
    refine wc_ret ?_
    refine fin1 (v := .agg (BV (ofl 8 (bytesL (s + 9223372036854775808) 8)))) rfl ⟨_, rfl, lv_a ag74 (hS.get 0 rfl) (BV_size _)⟩ ?_
    refine ⟨?_, hS.drop⟩
    subst hd1; exact congrArg (fun x => Ending.returned (.agg (BV (ofl 8 (bytesL x 8))))) (hd_1 s hs)
  · skip
    try simp only [SB] at hc1
    have hd0 : d = 0 := by omega
    refine wc_skip ?_
    refine wq_then ?_
    refine rg ?_
    refine mv rfl rfl rfl ?_
    refine cs cf59 hS rfl rfl rfl rfl rfl (sp_mooringref01_Bytes (s) (8) _ _ (by omega) (by omega)) ?_
    rintro _ X12 w ⟨a12, c12, rfl, hO12⟩ hS
    have hS := St.tailin (X := X12) hS [(b4, .cells (BV (Vector.replicate 8 0)) 74)] [] rfl
    have hle12 := hO12.len8
    have hle13 := hO12.le
    refine s2b Tryz.underlying74 rfl rfl rfl (by omega) ((hO12.cel hS (fun p hp => by simp [hp])).some8 (j := 0) (by first | omega | (simp; omega) | simp)) ?_
    refine ld rfl rfl rfl (lv_celj 0 ag74 (hO12.cel hS (fun p hp => by simp [hp])) (by first | omega | (simp; done) | (simp; omega)) (by omega)) ?_
    refine sa 0 ag74 hS rfl rfl rfl (BV_one _) rfl (BV_size _) (BV_size _) ?_
    intro w hS
    refine wq_then ?_
    refine wc_ret ?_
    refine fin1 (v := .agg (BV (ofl 8 (bytesL s 8)))) rfl ⟨_, rfl, lv_a ag74 (hS.get 0 rfl) (BV_size _)⟩ ?_
    refine ⟨?_, hS.drop⟩
    subst hd0; exact congrArg (fun x => Ending.returned (.agg (BV (ofl 8 (bytesL x 8))))) (hd_0 s hs)
end Go.Proofs.XZ

/- walks -/
namespace Go.Proofs.XZ
open Go Go.X Go.Proofs
set_option maxRecDepth 100000 in
theorem sp_mooringref15_Make (d : Nat) (s : UInt64) (d_ : Int) (w0 : World) (hd_ : d_ = (d : Int)) (hd : d ≤ 1) (hs : s.toNat ≤ 9223372036854775807) : Calls Tryz.prog 39 #[I d_, U64 s] w0 (Ret w0 (.agg (BV (nonceV (headV d s))))) := by
  subst hd_
  refine enter (args := [I (d : Int), U64 s]) Tryz.func39 rfl rfl ?_
  refine startw fun w hS => ?_
  refine rg ?_
  refine ala zr81 hS rfl rfl ?_
  intro b4 w hb4 hS
  refine wq_then ?_
  refine rg ?_
  refine ala zr81 hS rfl rfl ?_
  intro b5 w hb5 hS
  refine wq_then ?_
  refine rg ?_
  refine mv rfl rfl rfl ?_
  refine mv rfl rfl rfl ?_
  refine cv cf37 hS rfl rfl rfl rfl rfl (sp_mooringref15_Head (d) (s) _ _ (by omega) (by omega) (by assumption)) ?_
  intro w hS
  refine ala zr74 hS rfl rfl ?_
  intro b6 w hb6 hS
  refine sa 0 ag74 hS rfl rfl rfl (BV_one _) rfl (BV_size _) (BV_size _) ?_
  intro w hS
  refine wq_then ?_
  refine wc_seq ?_
  refine rg ?_
  refine asg rfl rfl rfl ?_
  refine wq_then ?_
  refine wc_block ?_
  refine wc_loop (σ := Nat) (fun k => [(4, Ptr b4 0), (5, Ptr b5 0), (6, Ptr b6 0), (7, I ((k : Int)))])
    (fun k w => (k ≤ 8) ∧ St w0 [] [(b6, .cells (BV (headV d s)) 74), (b5, .cells (BV (mkS (headV d s) k)) 81), (b4, .cells (BV (Vector.replicate 12 0)) 81)] w) (fun k => 8 - k) 0 ⟨rfl, rfl, rfl, rfl, trivial⟩ ⟨by omega, hS⟩ ?_
  rintro k w ⟨hk, hS⟩
  refine wc_seq ?_
  refine rg ?_
  refine mv rfl rfl rfl ?_
  refine lss rfl rfl rfl rfl ?_
  refine wq_then ?_
  refine wc_if rfl (fun hc1 => ?_) (fun hc1 => ?_)
  · skip
    try simp only [SB] at hc1
    refine wc_skip ?_
    refine wq_then ?_
    refine wc_seq ?_
    refine wc_block ?_
    refine wc_region ?_
    refine mv rfl rfl rfl ?_
    refine addi (by omega) (by omega) rfl rfl rfl rfl ?_
    refine mv rfl rfl rfl ?_
    refine ian (k) (k) Tryz.underlying74 sz5 rfl rfl rfl rfl (by omega) (by omega) (by omega) ?_
    refine lo 0 sc5 hS rfl rfl rfl rfl (BV_get _ k (by omega)) ?_
    refine ian (4 + k) ((4 + k)) Tryz.underlying81 sz5 rfl rfl rfl rfl (by omega) (by omega) (by omega) ?_
    refine st 1 sz5 hS rfl rfl rfl rfl rfl rfl (by rw [BV_size]; omega) (BV_set _ _ (gv (headV d s) k : UInt8)) ?_
    intro w hS
    refine q_block_norm ?_
    refine wq_then ?_
    refine wc_region ?_
    refine mv rfl rfl rfl ?_
    refine addi (by omega) (by omega) rfl rfl rfl rfl ?_
    refine asg rfl rfl rfl ?_
    refine again_q (k + 1) ⟨rfl, rfl, rfl, lkI rfl (by first | omega | rfl), trivial⟩ ⟨by omega, hS⟩ (by omega)
  · skip
    try simp only [SB] at hc1
    refine wc_exit ?_
    refine q_then_exit ?_
    refine q_then_exit ?_
    refine q_block_hit ?_
    refine wq_then ?_
    refine rg ?_
    refine la 1 ag81 hS rfl rfl rfl rfl (BV_size _) ?_
    refine sa 2 ag81 hS rfl rfl rfl (BV_one _) rfl (BV_size _) (BV_size _) ?_
    intro w hS
    refine wq_then ?_
    refine wc_ret ?_
    refine fin1 (v := .agg (BV (mkS (headV d s) k))) rfl ⟨_, rfl, lv_a ag81 (hS.get 2 rfl) (BV_size _)⟩ ?_
    refine ⟨?_, hS.drop⟩
    have hk4 : k = 8 := by omega
    rw [hk4, mk_eq]
end Go.Proofs.XZ

/- walks -/
namespace Go.Proofs.XZ
open Go Go.X Go.Proofs
set_option maxRecDepth 100000 in
theorem sp_mooringref17_Encode (key : V8 16) (dp : Int) (sp : UInt64) (tp ep : UInt16) (ap : Option Addr) (np capp : Nat) (bsp : List UInt8) (w0 : World) (hnp : bsp.length = np) (hNp : np ≤ 1000000) (hep : Cel w0 ap (c8 bsp)) (hcp : np ≤ capp) (hk : chk dp sp np = 0) : Calls Tryz.prog 14 #[.agg (BV (expand key) ++ BV sboxV), .agg #[I dp, U64 sp, U16 tp, U16 ep, .slice ap np capp]] w0 (RetS w0 (fun v X => ∃ a' c', v = .slice a' (np + 28) c' ∧ Own 1 a' (np + 28) c' (c8 (encP key dp sp tp ep bsp)) X)) := by
  refine enter (args := [.agg (BV (expand key) ++ BV sboxV), .agg #[I dp, U64 sp, U16 tp, U16 ep, .slice ap np capp]]) Tryz.func14 rfl rfl ?_
  refine startw fun w hS => ?_
  obtain ⟨⟨dn, hdn, hd1⟩, hs63, hn12⟩ := chk_0 hk
  refine rg ?_
  refine bxa hS rfl rfl rfl ?_
  intro b2 w hb2 hS
  refine bxa hS rfl rfl rfl ?_
  intro b3 w hb3 hS
  refine asg rfl rfl rfl ?_
  refine wq_then ?_
  refine rg ?_
  refine fan (2) (2) Tryz.underlying27 rfl sz24 (by decide) rfl rfl rfl rfl (by omega) ?_
  refine lo 0 sc24 hS rfl rfl rfl rfl rfl ?_
  refine quo16 (q := (256 : UInt16)) (by decide) rfl rfl rfl rfl ?_
  refine cvu8 Tryz.underlying5 ⟨_, Tryz.underlying24⟩ rfl rfl rfl ?_
  refine fan (2) (2) Tryz.underlying27 rfl sz24 (by decide) rfl rfl rfl rfl (by omega) ?_
  refine lo 0 sc24 hS rfl rfl rfl rfl rfl ?_
  refine rem16 (q := (256 : UInt16)) (by decide) rfl rfl rfl rfl ?_
  refine cvu8 Tryz.underlying5 ⟨_, Tryz.underlying24⟩ rfl rfl rfl ?_
  refine fan (3) (3) Tryz.underlying27 rfl sz24 (by decide) rfl rfl rfl rfl (by omega) ?_
  refine lo 0 sc24 hS rfl rfl rfl rfl rfl ?_
  refine quo16 (q := (256 : UInt16)) (by decide) rfl rfl rfl rfl ?_
  refine cvu8 Tryz.underlying5 ⟨_, Tryz.underlying24⟩ rfl rfl rfl ?_
  refine fan (3) (3) Tryz.underlying27 rfl sz24 (by decide) rfl rfl rfl rfl (by omega) ?_
  refine lo 0 sc24 hS rfl rfl rfl rfl rfl ?_
  refine rem16 (q := (256 : UInt16)) (by decide) rfl rfl rfl rfl ?_
  refine cvu8 Tryz.underlying5 ⟨_, Tryz.underlying24⟩ rfl rfl rfl ?_
  refine bsl (cs := #[U8 (toU8 (((tp / 256).toNat : Int))), U8 (toU8 (((tp % 256).toNat : Int))), U8 (toU8 (((ep / 256).toNat : Int))), U8 (toU8 (((ep % 256).toNat : Int)))]) sl25 hS rfl rfl rfl rfl (by kernel_rfl) ?_
  intro b23 w hb23 hS
  refine asg rfl rfl rfl ?_
  refine wq_then ?_
  refine rg ?_
  refine mv rfl rfl rfl ?_
  refine fan (4) (4) Tryz.underlying27 rfl sz25 (by decide) rfl rfl rfl rfl (by omega) ?_
  refine lo 1 sc25 hS rfl rfl rfl rfl rfl ?_
  refine app (A := [(b3, .cells (#[I (dp), U64 (sp), U16 (tp), U16 (ep), .slice ap np capp]) 27), (b2, .cells (BV (expand key) ++ BV sboxV) 48)]) (X := [(b23, .cells (#[U8 (toU8 (((tp / 256).toNat : Int))), U8 (toU8 (((tp % 256).toNat : Int))), U8 (toU8 (((ep / 256).toNat : Int))), U8 (toU8 (((ep % 256).toNat : Int)))]) 5)]) (R := []) sl25 (Own.blk (n := 4) rfl (by decide)) ((hS.napp).toend 0 rfl) rfl rfl rfl rfl (src8 Tryz.underlying25 _ (hep.st hS) (by first | rfl | omega | (simp; omega) | (simp; done))) (by omega) (by omega) ?_
  intro a27 c27 X27 w hO27 hS
  have hO27 : Own _ a27 (4 + np) c27 (c8 (([toU8 (((tp / 256).toNat : Int)), toU8 (((tp % 256).toNat : Int)), toU8 (((ep / 256).toNat : Int)), toU8 (((ep % 256).toNat : Int))]) ++ bsp)) X27 := hO27
  have hle27 := hO27.le
  rw [tm_bytes] at hO27
  refine asg rfl rfl rfl ?_
  refine wq_then ?_
  refine rg ?_
  refine fan (0) (0) Tryz.underlying27 rfl sz3 (by decide) rfl rfl rfl rfl (by omega) ?_
  refine lo 0 sc3 hS rfl rfl rfl rfl rfl ?_
  refine fan (1) (1) Tryz.underlying27 rfl sz23 (by decide) rfl rfl rfl rfl (by omega) ?_
  refine lo 0 sc23 hS rfl rfl rfl rfl rfl ?_
  refine cv cf37 hS rfl rfl rfl rfl rfl (sp_mooringref15_Head (dn) (sp) _ _ (by omega) (by omega) (by assumption)) ?_
  intro w hS
  refine ala zr74 hS rfl rfl ?_
  intro b6 w hb6 hS
  refine sa 0 ag74 hS rfl rfl rfl (BV_one _) rfl (BV_size _) (BV_size _) ?_
  intro w hS
  refine wq_then ?_
  refine rd mo 10 (fun w => St w0 [] [(b3, .cells (#[I (dp), U64 (sp), U16 (tp), U16 (ep), .slice ap np capp]) 27), (b2, .cells (BV (expand key) ++ BV sboxV) 48)] w) ?_
  have hS := hS.drew
  refine dq 0 rfl (by kernel_rfl) (by kernel_rfl) (by kernel_rfl) rfl rfl (fun w hS => a_all Tryz.underlying74 ⟨_, sz5⟩ rfl rfl rfl ⟨rfl, rfl⟩) (hS.sublist (.cons _ (.cons_cons _ (.cons_cons _ (List.nil_sublist _))))) ?_
  refine dq 1 rfl (by kernel_rfl) (by kernel_rfl) (by kernel_rfl) rfl rfl (fun w hS => la 1 ag48 hS rfl rfl rfl rfl (cat_size (a := 176) (b := 256) (BV_size _) (BV_size _)) ⟨rfl, rfl⟩) (hS.sublist (.cons _ (.cons_cons _ (.cons_cons _ (List.nil_sublist _))))) ?_
  refine dq 2 rfl (by kernel_rfl) (by kernel_rfl) (by kernel_rfl) rfl rfl (fun w hS => fan (0) (0) Tryz.underlying27 rfl sz3 (by decide) rfl rfl rfl rfl (by omega) ⟨rfl, rfl⟩) (hS.sublist (.cons _ (.cons_cons _ (.cons_cons _ (List.nil_sublist _))))) ?_
  refine dq 3 rfl (by kernel_rfl) (by kernel_rfl) (by kernel_rfl) rfl rfl (fun w hS => lo 0 sc3 hS rfl rfl rfl rfl rfl ⟨rfl, rfl⟩) (hS.sublist (.cons _ (.cons_cons _ (.cons_cons _ (List.nil_sublist _))))) ?_
  refine dq 4 rfl (by kernel_rfl) (by kernel_rfl) (by kernel_rfl) rfl rfl (fun w hS => fan (1) (1) Tryz.underlying27 rfl sz23 (by decide) rfl rfl rfl rfl (by omega) ⟨rfl, rfl⟩) (hS.sublist (.cons _ (.cons_cons _ (.cons_cons _ (List.nil_sublist _))))) ?_
  refine dq 5 rfl (by kernel_rfl) (by kernel_rfl) (by kernel_rfl) rfl rfl (fun w hS => lo 0 sc23 hS rfl rfl rfl rfl rfl ⟨rfl, rfl⟩) (hS.sublist (.cons _ (.cons_cons _ (.cons_cons _ (List.nil_sublist _))))) ?_
  refine dq 7 rfl (by kernel_rfl) (by kernel_rfl) (by kernel_rfl) rfl rfl (fun w hS => mv rfl rfl rfl ⟨rfl, rfl⟩) (hS.sublist (.cons _ (.cons_cons _ (.cons_cons _ (List.nil_sublist _))))) ?_
  refine dl 6 rfl (by kernel_rfl) ?_
  refine cv cf39 hS rfl rfl rfl rfl rfl (sp_mooringref15_Make (dn) (sp) _ _ (by omega) (by omega) (by assumption)) ?_
  intro w hS
  refine ⟨fun _ => (hS.sublist (.cons _ (.cons_cons _ (.cons_cons _ (List.nil_sublist _))))), ?_⟩
  refine dl 8 rfl (by kernel_rfl) ?_
  refine cs cf38 hS rfl rfl rfl rfl rfl (sp_mooringref12_Seal (key) ((nonceV (headV dn sp))) (a27) ((4 + np)) (c27) ((bytesL (tmV tp ep) 4 ++ bsp)) (none) (0) (0) (([])) _ hO27.len8 (by omega) (hO27.cel hS (fun p hp => by simp [hp])) (by omega) (by omega) rfl (by omega) (Cel.nil _ _) (by omega) (by omega)) ?_
  rintro _ X41 w ⟨a41, c41, rfl, hO41⟩ hS
  have hS := St.tailin (X := X41) hS [(b6, .cells (BV (headV dn sp)) 74), (b3, .cells (#[I (dp), U64 (sp), U16 (tp), U16 (ep), .slice ap np capp]) 27), (b2, .cells (BV (expand key) ++ BV sboxV) 48)] (X27 ++ []) rfl
  refine ⟨fun _ => (hS.sublist (.cons _ (.cons_cons _ (.cons_cons _ (List.nil_sublist _))))), ?_⟩
  refine dl 9 rfl (by kernel_rfl) ?_
  refine app (A := [(b3, .cells (#[I (dp), U64 (sp), U16 (tp), U16 (ep), .slice ap np capp]) 27), (b2, .cells (BV (expand key) ++ BV sboxV) 48)]) (X := [(b6, .cells (BV (headV dn sp)) 74)]) (R := (X41 ++ (X27 ++ []))) sl25 (Own.blk (BV_size _) (by decide)) (St.toend (A := [(b6, .cells (BV (headV dn sp)) 74), (b3, .cells (#[I (dp), U64 (sp), U16 (tp), U16 (ep), .slice ap np capp]) 27), (b2, .cells (BV (expand key) ++ BV sboxV) 48)]) (R := (X41 ++ (X27 ++ []))) hS 0 rfl) rfl rfl rfl rfl (src8 Tryz.underlying25 _ (hO41.cel hS (fun p hp => by simp [hp])) hO41.len8) (by omega) (by omega) ?_
  intro a42 c42 X42 w hO42 hS
  rw [BV_toList, c8_app] at hO42
  refine ⟨fun _ => (hS.sublist (.cons_cons _ (.cons_cons _ (List.nil_sublist _)))), ?_⟩
  refine dl 10 rfl (by kernel_rfl) ?_
  refine asg rfl rfl rfl ?_
  refine ⟨fun h => (by cases h), ?_⟩
  refine de (by kernel_rfl) ?_
  refine wq_then ?_
  refine wc_ret ?_
  refine fin1 (v := .slice a42 (8 + ((4 + np) + 16)) c42) rfl rfl ?_
  have e28 : 8 + (4 + np + 16) = np + 28 := by omega
  rw [e28] at hO42
  exact ⟨_, X42, rfl, ⟨_, _, by rw [e28], enc_ok hnp hk hdn hO42⟩, hS.sublist (.cons _ (.cons _ (List.sublist_append_left X42 (X41 ++ (X27 ++ [])))))⟩
end Go.Proofs.XZ
