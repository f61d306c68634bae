/- Part 7 of the ground of this seat's proofs: rules of a calculus of walks, and what the functions of the lower layers compute; no conditions beyond those that each statement bears. -/
import Derived.Test.YtdcophmboncacaaGreatDoorBase6
set_option linter.unusedVariables false
set_option linter.unusedSimpArgs false
set_option linter.unnecessarySimpa false
set_option linter.defProp false
set_option maxRecDepth 100000
set_option maxHeartbeats 2000000
namespace Go.Proofs.XS
open Go Go.X Go.Proofs
theorem sp_mooringref06_Mix (g : V8 16) (w0 : World) : Calls Tryz.prog 190 #[.agg (BV g)] w0 (Ret w0 (.agg (BV (mixG g)))) := by
 refine enter (args := [.agg (BV g)]) Tryz.func190 O O<|startw fun w hS =>rg<|bxa hS O O O fun b1 w hb1 hS =>ala zr268 hS O O fun b2 w hb2 hS =>wt<|rg<|ala zr268 hS O O fun b3 w hb3 hS =>wt<|wc_seq<|rg<|asg O O O ?_
 refine wt<|wc_block ?_
 refine wc_loop (σ := Nat) (fun c =>[(1, Ptr b1 0), (2, Ptr b2 0), (3, Ptr b3 0), (4, I ((c : Int)))])
  (fun c w => (c ≤ 4) ∧ St w0 [] [(b3, .cells (BV (gfill (mixGf g) (Vector.replicate 16 0) c 0)) 268), (b2, .cells (BV (Vector.replicate 16 0)) 268), (b1, .cells (BV g) 268)] w) (fun c => 4 - c) 0 ⟨rfl, rfl, rfl, rfl, trivial⟩ ⟨by omega, (by rw [gfill_0]; exact hS)⟩ ?_
 rintro c w ⟨hk, hS⟩
 refine wc_seq<|rg<|mv O O O<|lss O O O O<|wt ?_
 refine wc_if O (fun hc1 =>?_) (fun hc1 =>?_)
 ·try simp only [SB] at hc1
  refine wc_skip<|wt<|wc_seq<|wc_block<|rg<|asg O O O<|wt<|wc_block ?_
  refine wc_loop (σ := Nat) (fun k =>[(1, Ptr b1 0), (2, Ptr b2 0), (3, Ptr b3 0), (4, I ((c : Int))), (5, I ((k : Int)))])
   (fun k w => (k ≤ 4) ∧ St w0 [] [(b3, .cells (BV (gfill (mixGf g) (Vector.replicate 16 0) c k)) 268), (b2, .cells (BV (Vector.replicate 16 0)) 268), (b1, .cells (BV g) 268)] w) (fun k => 4 - k) 0 ⟨rfl, rfl, rfl, rfl, rfl, trivial⟩ ⟨by omega, hS⟩ ?_
  rintro k w ⟨hk, hS⟩
  refine wc_seq<|rg<|mv O O O<|lss O O O O<|wt ?_
  refine wc_if O (fun hc2 =>?_) (fun hc2 =>?_)
  ·try simp only [SB] at hc2
   refine wc_skip<|wt<|wc_seq<|wc_block<|rd mo 15 (fun w =>St w0 [] [(b3, .cells (BV (gfill (mixGf g) (Vector.replicate 16 0) c k)) 268), (b2, .cells (BV (Vector.replicate 16 0)) 268), (b1, .cells (BV g) 268)] w)<|have hS := hS.drew; jx hS fun jj =>dx 0 O (by kernel_rfl) (fun w hS =>mv O O O rr) jj<|dx 1 O (by kernel_rfl) (fun w hS =>mv O O O rr) jj<|dx 2 O (by kernel_rfl) (fun w hS =>ian k (k * 4) un268 sz205 O O O O (by omega) (by omega) (by omega) rr) jj<|dx 3 O (by kernel_rfl) (fun w hS =>ian c (k * 4 + c) un205 sz5 O O O O (by omega) (by omega) (by omega) rr) jj<|dx 4 O (by kernel_rfl) (fun w hS =>lo 2 sc5 hS O O O O (BV_get _ (k * 4 + c) (by omega)) rr) jj<|dx 6 O (by kernel_rfl) (fun w hS =>mv O O O rr) jj ?_
   refine dx 7 O (by kernel_rfl) (fun w hS =>addi (by omega) (by omega) O O O O rr) jj<|dx 8 O (by kernel_rfl) (fun w hS =>remi (by omega) (by omega) O O O O rr) jj<|dx 9 O (by kernel_rfl) (fun w hS =>mv O O O rr) jj<|dx 10 O (by kernel_rfl) (fun w hS =>ian ((k + 1) % 4) (((k + 1) % 4) * 4) un268 sz205 O O O O (by omega) (by omega) (by omega) rr) jj<|dx 11 O (by kernel_rfl) (fun w hS =>ian c (((k + 1) % 4) * 4 + c) un205 sz5 O O O O (by omega) (by omega) (by omega) rr) jj<|dx 12 O (by kernel_rfl) (fun w hS =>lo 2 sc5 hS O O O O (BV_get _ (((k + 1) % 4) * 4 + c) (by omega)) rr) jj ?_
   refine dl 5 O (by kernel_rfl)<|cv cf119 hS O O O O O (sp_mooringref03_Mul 2 ((gv g (k * 4 + c))) _) fun w hS =>lx hS fun jj =>?_
   refine dl 13 O (by kernel_rfl)<|cv cf119 hS O O O O O (sp_mooringref03_Mul 3 ((gv g (((k + 1) % 4) * 4 + c))) _) fun w hS =>lx hS fun jj =>dx 14 O (by kernel_rfl) (fun w hS =>xor8 O O O O rr) jj ?_
   refine dl 15 O (by kernel_rfl)<|asg O O O<|ly O<|de (by kernel_rfl)<|wt<|wc_draw mo 22 (fun w =>St w0 [] [(b2, .cells (BV (Vector.replicate 16 0)) 268), (b1, .cells (BV g) 268)] w)<|have hS := hS.drew; jx (hS.sl 3 6) fun jj =>dx 0 O (by kernel_rfl) (fun w hS =>mv O O O rr) jj<|dx 1 O (by kernel_rfl) (fun w hS =>mv O O O rr) jj<|dx 2 O (by kernel_rfl) (fun w hS =>mv O O O rr) jj<|dx 3 O (by kernel_rfl) (fun w hS =>mv O O O rr) jj<|dx 4 O (by kernel_rfl) (fun w hS =>addi (by omega) (by omega) O O O O rr) jj ?_
   refine dx 5 O (by kernel_rfl) (fun w hS =>remi (by omega) (by omega) O O O O rr) jj<|dx 6 O (by kernel_rfl) (fun w hS =>mv O O O rr) jj<|dx 7 O (by kernel_rfl) (fun w hS =>ian ((k + 2) % 4) (((k + 2) % 4) * 4) un268 sz205 O O O O (by omega) (by omega) (by omega) rr) jj<|dx 8 O (by kernel_rfl) (fun w hS =>ian c (((k + 2) % 4) * 4 + c) un205 sz5 O O O O (by omega) (by omega) (by omega) rr) jj<|dx 9 O (by kernel_rfl) (fun w hS =>lo 1 sc5 hS O O O O (BV_get _ (((k + 2) % 4) * 4 + c) (by omega)) rr) jj<|dx 10 O (by kernel_rfl) (fun w hS =>xor8 O O O O rr) jj<|dx 11 O (by kernel_rfl) (fun w hS =>mv O O O rr) jj<|dx 12 O (by kernel_rfl) (fun w hS =>addi (by omega) (by omega) O O O O rr) jj<|dx 13 O (by kernel_rfl) (fun w hS =>remi (by omega) (by omega) O O O O rr) jj<|dx 14 O (by kernel_rfl) (fun w hS =>mv O O O rr) jj<|dx 15 O (by kernel_rfl) (fun w hS =>ian ((k + 3) % 4) (((k + 3) % 4) * 4) un268 sz205 O O O O (by omega) (by omega) (by omega) rr) jj<|dx 16 O (by kernel_rfl) (fun w hS =>ian c (((k + 3) % 4) * 4 + c) un205 sz5 O O O O (by omega) (by omega) (by omega) rr) jj ?_
   refine dx 17 O (by kernel_rfl) (fun w hS =>lo 1 sc5 hS O O O O (BV_get _ (((k + 3) % 4) * 4 + c) (by omega)) rr) jj<|dx 18 O (by kernel_rfl) (fun w hS =>xor8 O O O O rr) jj<|dx 19 O (by kernel_rfl) (fun w hS =>ian k (k * 4) un268 sz205 O O O O (by omega) (by omega) (by omega) rr) jj<|dx 20 O (by kernel_rfl) (fun w hS =>ian c (k * 4 + c) un205 sz5 O O O O (by omega) (by omega) (by omega) rr) jj ?_
   refine dl 21 O (by kernel_rfl)<|st (cs' := BV (gfill (mixGf g) (Vector.replicate 16 0) c (k + 1))) 0 sz5 hS O O O O O O (by rw [BV_size]; omega) (by rw [BV_set, show (((mulR 2 (gv g (k * 4 + c))) ^^^ (mulR 3 (gv g (((k + 1) % 4) * 4 + c)))) ^^^ (gv g (((k + 2) % 4) * 4 + c))) ^^^ (gv g (((k + 3) % 4) * 4 + c)) = (mixGf g) (k * 4 + c) by (simp only [mixGf, unGf, show (k * 4 + c) / 4 = k by omega, show (k * 4 + c) % 4 = c by omega])]; exact congrArg BV (gfill_set (mixGf g) _ (by omega) (by omega))) fun w hS =>lx (hS.sl 3 6) fun jj =>de (by kernel_rfl)<|q_block_norm<|wt<|wc_region<|mv O O O<|addi (by omega) (by omega) O O O O<|asg O O O ?_
   refine again_q (k + 1) ⟨O, O, O, O, lkI O (by first | omega | rfl), trivial⟩ ⟨by omega, hS⟩ (by omega)
  ·try simp only [SB] at hc2
   have hk4 : k = 4 := by omega
   rw [hk4, gfill_next] at hS
   refine wc_exit<|q_then_exit<|q_then_exit<|q_block_hit<|q_block_norm<|wt<|wc_region<|mv O O O<|addi (by omega) (by omega) O O O O<|asg O O O ?_
   refine again_q (c + 1) ⟨O, O, O, lkI O (by first | omega | rfl), trivial⟩ ⟨by omega, hS⟩ (by omega)
 ·try simp only [SB] at hc1
  refine wc_exit<|q_then_exit<|q_then_exit<|q_block_hit<|wt<|rg<|la 0 ag268 hS O O O O (BV_size _)<|sa 1 ag268 hS O O O (BV_one _) O (BV_size _) (BV_size _) fun w hS =>wt<|wc_ret<|fin1 (v := .agg (BV (gfill (mixGf g) (Vector.replicate 16 0) c 0))) O ⟨_, O, lv_a ag268 (hS.get 1 O) (BV_size _)⟩ ?_
  refine ⟨?_, hS.drop⟩
  have hc4 : c = 4 := by omega
  rw [hc4, gfill_end]; rfl
theorem sp_mooringref06_Shift (g : V8 16) (w0 : World) : Calls Tryz.prog 187 #[.agg (BV g)] w0 (Ret w0 (.agg (BV (shG g)))) := by
 refine enter (args := [.agg (BV g)]) Tryz.func187 O O<|startw fun w hS =>rg<|bxa hS O O O fun b1 w hb1 hS =>ala zr268 hS O O fun b2 w hb2 hS =>wt<|wc_seq<|rg<|asg O O O<|wt<|wc_block ?_
 refine wc_loop (σ := Nat) (fun m =>[(1, Ptr b1 0), (2, Ptr b2 0), (3, I ((m : Int)))])
  (fun m w => (1 ≤ m ∧ m ≤ 4) ∧ St w0 [] [(b2, .cells (BV (Vector.replicate 16 0)) 268), (b1, .cells (BV (shS g m 0)) 268)] w) (fun m => 4 - m) 1 ⟨rfl, rfl, rfl, trivial⟩ ⟨⟨by omega, by omega⟩, (by rw [shS_10]; exact hS)⟩ ?_
 rintro m w ⟨⟨hm1, hm⟩, hS⟩
 refine wc_seq<|rg<|mv O O O<|lss O O O O<|wt ?_
 refine wc_if O (fun hc1 =>?_) (fun hc1 =>?_)
 ·try simp only [SB] at hc1
  refine wc_skip<|wt<|wc_seq<|wc_block<|rg<|asg O O O<|wt<|wc_block ?_
  refine wc_loop (σ := Nat) (fun k =>[(1, Ptr b1 0), (2, Ptr b2 0), (3, I ((m : Int))), (4, I ((k : Int)))])
   (fun k w => (k ≤ m) ∧ St w0 [] [(b2, .cells (BV (Vector.replicate 16 0)) 268), (b1, .cells (BV (shS g m k)) 268)] w) (fun k => m - k) 0 ⟨rfl, rfl, rfl, rfl, trivial⟩ ⟨by omega, hS⟩ ?_
  rintro k w ⟨hk, hS⟩
  refine wc_seq<|rg<|mv O O O<|mv O O O<|lss O O O O<|wt ?_
  refine wc_if O (fun hc2 =>?_) (fun hc2 =>?_)
  ·try simp only [SB] at hc2
   refine wc_skip<|wt<|wc_seq<|wc_block<|wc_draw mo 18 (fun w =>St w0 [] [(b2, .cells (BV (Vector.replicate 16 0)) 268), (b1, .cells (BV (shS g m k)) 268)] w)<|have hS := hS.drew; jx hS fun jj =>dx 0 O (by kernel_rfl) (fun w hS =>mv O O O rr) jj<|dx 1 O (by kernel_rfl) (fun w hS =>mv O O O rr) jj<|dx 2 O (by kernel_rfl) (fun w hS =>ian m (m * 4) un268 sz205 O O O O (by omega) (by omega) (by omega) rr) jj<|dx 3 O (by kernel_rfl) (fun w hS =>ian 1 (m * 4 + 1) un205 sz5 O O O O (by omega) (by omega) (by omega) rr) jj<|dx 4 O (by kernel_rfl) (fun w hS =>lo 1 sc5 hS O O O O (BV_get _ (m * 4 + 1) (by omega)) rr) jj<|dx 5 O (by kernel_rfl) (fun w hS =>mv O O O rr) jj ?_
   refine dx 6 O (by kernel_rfl) (fun w hS =>ian m (m * 4) un268 sz205 O O O O (by omega) (by omega) (by omega) rr) jj<|dx 7 O (by kernel_rfl) (fun w hS =>ian 2 (m * 4 + 2) un205 sz5 O O O O (by omega) (by omega) (by omega) rr) jj<|dx 8 O (by kernel_rfl) (fun w hS =>lo 1 sc5 hS O O O O (BV_get _ (m * 4 + 2) (by omega)) rr) jj<|dx 9 O (by kernel_rfl) (fun w hS =>mv O O O rr) jj<|dx 10 O (by kernel_rfl) (fun w hS =>ian m (m * 4) un268 sz205 O O O O (by omega) (by omega) (by omega) rr) jj<|dx 11 O (by kernel_rfl) (fun w hS =>ian 3 (m * 4 + 3) un205 sz5 O O O O (by omega) (by omega) (by omega) rr) jj<|dx 12 O (by kernel_rfl) (fun w hS =>lo 1 sc5 hS O O O O (BV_get _ (m * 4 + 3) (by omega)) rr) jj<|dx 13 O (by kernel_rfl) (fun w hS =>mv O O O rr) jj<|dx 14 O (by kernel_rfl) (fun w hS =>ian m (m * 4) un268 sz205 O O O O (by omega) (by omega) (by omega) rr) jj<|dx 15 O (by kernel_rfl) (fun w hS =>ian 0 (m * 4) un205 sz5 O O O O (by omega) (by omega) (by omega) rr) jj<|dx 16 O (by kernel_rfl) (fun w hS =>lo 1 sc5 hS O O O O (BV_get _ (m * 4) (by omega)) rr) jj<|dx 17 O (by kernel_rfl) (fun w hS =>bd (cs := BV (#v[gv (shS g m k) (m * 4 + 1), gv (shS g m k) (m * 4 + 2), gv (shS g m k) (m * 4 + 3), gv (shS g m k) (m * 4)])) O O O (by kernel_rfl) rr) jj ?_
   refine dl 18 O (by kernel_rfl)<|ian m (m * 4) un268 sz205 O O O O (by omega) (by omega) (by omega)<|ly O ?_
   refine dl 19 O (by kernel_rfl)<|spp (cs' := BV (shS g m (k + 1))) 1 ag205 hS O O O (BV_one _) O (le_sz (a := 16) (BV_size _) (by omega)) (BV_size _) (by rw [BV_put _ _ _ (by omega)]; exact congrArg BV (shS_set g (by omega) hm1)) fun w hS =>ly O<|de (by kernel_rfl)<|q_block_norm<|wt<|wc_region<|mv O O O<|addi (by omega) (by omega) O O O O<|asg O O O ?_
   refine again_q (k + 1) ⟨O, O, O, lkI O (by first | omega | rfl), trivial⟩ ⟨by omega, hS⟩ (by omega)
  ·try simp only [SB] at hc2
   have hk4 : k = m := by omega
   rw [hk4, shS_next] at hS
   refine wc_exit<|q_then_exit<|q_then_exit<|q_block_hit<|q_block_norm<|wt<|wc_region<|mv O O O<|addi (by omega) (by omega) O O O O<|asg O O O ?_
   refine again_q (m + 1) ⟨O, O, lkI O (by first | omega | rfl), trivial⟩ ⟨⟨by omega, by omega⟩, hS⟩ (by omega)
 ·try simp only [SB] at hc1
  refine wc_exit<|q_then_exit<|q_then_exit<|q_block_hit<|wt<|rg<|la 1 ag268 hS O O O O (BV_size _)<|sa 0 ag268 hS O O O (BV_one _) O (BV_size _) (BV_size _) fun w hS =>wt<|wc_ret<|fin1 (v := .agg (BV (shS g m 0))) O ⟨_, O, lv_a ag268 (hS.get 0 O) (BV_size _)⟩ ?_
  refine ⟨?_, hS.drop⟩
  have hm4 : m = 4 := by omega
  rw [hm4, shS_end]
theorem sp_mooringref06_Encrypt (key b : V8 16) (w0 : World) : Calls Tryz.prog 159 #[.agg (BV (expand key) ++ BV sboxV), .agg (BV b)] w0 (Ret w0 (.agg (BV (enc key b)))) := by
 refine enter (args := [.agg (BV (expand key) ++ BV sboxV), .agg (BV b)]) Tryz.func159 O O<|startw fun w hS =>rg<|bxa hS O O O fun b2 w hb2 hS =>bxa hS O O O fun b3 w hb3 hS =>ala zr22 hS O O fun b4 w hb4 hS =>wt ?_
 refine sqj (fun l w =>∃ (b5 : Nat), l = [(2, Ptr b2 0), (4, Ptr b4 0), (5, Ptr b5 0)] ∧ St w0 [] [(b5, .cells (BV (addG (ofG b) (seg8 16 (expand key) 0))) 268), (b4, .cells (BV (Vector.replicate 16 0)) 22), (b3, .cells (BV b) 22), (b2, .cells (BV (expand key) ++ BV sboxV) 45)] w) ?_ ?_
 ·refine wc_draw mo 7 (fun w =>St w0 [] [(b4, .cells (BV (Vector.replicate 16 0)) 22), (b3, .cells (BV b) 22), (b2, .cells (BV (expand key) ++ BV sboxV) 45)] w)<|have hS := hS.drew; jx hS fun jj =>dx 0 O (by kernel_rfl) (fun w hS =>la 1 ag22 hS O O O O (BV_size _) rr) jj<|dx 2 O (by kernel_rfl) (fun w hS =>fan 0 0 un45 O sz42 (by decide) O O O O (by omega) rr) jj<|dx 3 O (by kernel_rfl) (fun w hS =>ian 0 0 un42 sz22 O O O O (by omega) (by omega) (by omega) rr) jj<|dx 4 O (by kernel_rfl) (fun w hS =>lp (u := .agg (BV (seg8 16 (expand key) 0))) 2 ag22 hS O O O O (le_sz (a := 432) (cat_size (a := 176) (b := 256) (BV_size _) (BV_size _)) (by omega)) (cat_xl (a := 176) (BV_size _) (by omega) (BV_extract 16 _ 0 (by omega))) O rr) jj ?_
  refine dl2 1 6 O O (by kernel_rfl) ?_ ?_
  ·refine cv cf184 hS O O O O O (sp_mooringref06_Of b _) fun w hS =>lx hS fun jj =>?_
   refine dl2 5 6 O O (by kernel_rfl) ?_ ?_
   ·refine cv cf185 hS O O O O O (sp_mooringref06_Add ((ofG b)) ((seg8 16 (expand key) 0)) _) fun w hS =>lx hS fun jj =>?_
    refine dl 6 O (by kernel_rfl)<|ala zr268 hS O O fun b5 w hb5 hS =>lx hS.tl fun jj =>?_
    refine dl 7 O (by kernel_rfl)<|sa 0 ag268 hS O O O (BV_one _) O (BV_size _) (BV_size _) fun w hS =>ly O<|de (by kernel_rfl) ?_
    exact mmq ⟨b5, rfl, hS⟩ ⟨rfl, rfl, rfl, trivial⟩
   ·refine ala zr268 hS O O fun b5 w hb5 hS =>lx hS.tl fun jj =>?_
    refine dl 5 O (by kernel_rfl)<|cv cf185 hS O O O O O (sp_mooringref06_Add ((ofG b)) ((seg8 16 (expand key) 0)) _) fun w hS =>lx hS.tl fun jj =>?_
    refine dl 7 O (by kernel_rfl)<|sa 0 ag268 hS O O O (BV_one _) O (BV_size _) (BV_size _) fun w hS =>ly O<|de (by kernel_rfl) ?_
    exact mmq ⟨b5, rfl, hS⟩ ⟨rfl, rfl, rfl, trivial⟩
  ·refine ala zr268 hS O O fun b5 w hb5 hS =>lx hS.tl fun jj =>?_
   refine dl 1 O (by kernel_rfl)<|cv cf184 hS O O O O O (sp_mooringref06_Of b _) fun w hS =>lx hS.tl fun jj =>?_
   refine dl 5 O (by kernel_rfl)<|cv cf185 hS O O O O O (sp_mooringref06_Add ((ofG b)) ((seg8 16 (expand key) 0)) _) fun w hS =>lx hS.tl fun jj =>?_
   refine dl 7 O (by kernel_rfl)<|sa 0 ag268 hS O O O (BV_one _) O (BV_size _) (BV_size _) fun w hS =>ly O<|de (by kernel_rfl) ?_
   exact mmq ⟨b5, rfl, hS⟩ ⟨rfl, rfl, rfl, trivial⟩
 ·rintro _ w ⟨b5, rfl, hS⟩
  refine wc_seq<|rg<|asg O O O<|wt<|wc_block ?_
  refine wc_loop (σ := Nat) (fun j =>[(2, Ptr b2 0), (4, Ptr b4 0), (5, Ptr b5 0), (6, I ((j : Int) + 1))])
   (fun j w => (j ≤ 10) ∧ St w0 [] [(b5, .cells (BV (enG key b j)) 268), (b4, .cells (BV (Vector.replicate 16 0)) 22), (b3, .cells (BV b) 22), (b2, .cells (BV (expand key) ++ BV sboxV) 45)] w) (fun j => 10 - j) 0 ⟨rfl, rfl, rfl, rfl, trivial⟩ ⟨by omega, hS⟩ ?_
  rintro j w ⟨hk, hS⟩
  refine wc_seq<|rg<|mv O O O<|leq O O O O<|wt ?_
  refine wc_if O (fun hc1 =>?_) (fun hc1 =>?_)
  ·try simp only [SB] at hc1
   refine wc_skip<|wt<|wc_seq<|wc_block<|rg<|la 0 ag268 hS O O O O (BV_size _)<|fan 176 176 un45 O sz43 (by decide) O O O O (by omega)<|lp (u := .agg (BV sboxV)) 3 ag43 hS O O O O (le_sz (a := 432) (cat_size (a := 176) (b := 256) (BV_size _) (BV_size _)) (by omega)) (cat_xr (a := 176) (o' := 0) (BV_size _) (by omega) (ext_all (BV_size _))) O<|cv cf188 hS O O O O O (sp_mooringref06_Sub ((enG key b j)) sboxV _) fun w hS =>cv cf187 hS O O O O O (sp_mooringref06_Shift ((subG (enG key b j) sboxV)) _) fun w hS =>sa 0 ag268 hS O O O (BV_one _) O (BV_size _) (BV_size _) fun w hS =>wt ?_
   refine wc_seq<|rg<|mv O O O<|lss O O O O<|wt ?_
   refine wc_if O (fun hc2 =>?_) (fun hc2 =>?_)
   ·try simp only [SB] at hc2
    refine wc_region<|la 0 ag268 hS O O O O (BV_size _)<|cv cf190 hS O O O O O (sp_mooringref06_Mix ((shG (subG (enG key b j) sboxV))) _) fun w hS =>sa 0 ag268 hS O O O (BV_one _) O (BV_size _) (BV_size _) fun w hS =>wt<|wc_draw mo 6 (fun w =>St w0 [] [(b4, .cells (BV (Vector.replicate 16 0)) 22), (b3, .cells (BV b) 22), (b2, .cells (BV (expand key) ++ BV sboxV) 45)] w)<|have hS := hS.drew; jx (hS.sl 4 14) fun jj =>dx 1 O (by kernel_rfl) (fun w hS =>mv O O O rr) jj<|dx 2 O (by kernel_rfl) (fun w hS =>fan 0 0 un45 O sz42 (by decide) O O O O (by omega) rr) jj<|dx 3 O (by kernel_rfl) (fun w hS =>ian (j + 1) ((j + 1) * 16) un42 sz22 O O O O (by omega) (by omega) (by omega) rr) jj<|dx 4 O (by kernel_rfl) (fun w hS =>lp (u := .agg (BV (seg8 16 (expand key) ((j + 1) * 16)))) 2 ag22 hS O O O O (le_sz (a := 432) (cat_size (a := 176) (b := 256) (BV_size _) (BV_size _)) (by omega)) (cat_xl (a := 176) (BV_size _) (by omega) (BV_extract 16 _ ((j + 1) * 16) (by omega))) O rr) jj ?_
    refine dl 0 O (by kernel_rfl)<|la 0 ag268 hS O O O O (BV_size _)<|lx (hS.sl 4 14) fun jj =>?_
    refine dl 5 O (by kernel_rfl)<|cv cf185 hS O O O O O (sp_mooringref06_Add ((mixG (shG (subG (enG key b j) sboxV)))) ((seg8 16 (expand key) ((j + 1) * 16))) _) fun w hS =>lx (hS.sl 4 14) fun jj =>?_
    refine dl 6 O (by kernel_rfl)<|sa 0 ag268 hS O O O (BV_one _) O (BV_size _) (BV_size _) fun w hS =>ly O<|de (by kernel_rfl)<|q_block_norm<|wt<|wc_region<|mv O O O<|addi (by omega) (by omega) O O O O<|asg O O O ?_
    refine again_q (j + 1) ⟨O, O, O, lkI O (by first | omega | rfl), trivial⟩ ⟨by omega, (by rw [en_lo (by omega)]; exact hS)⟩ (by omega)
   ·try simp only [SB] at hc2
    refine wc_skip<|wt<|wc_draw mo 6 (fun w =>St w0 [] [(b4, .cells (BV (Vector.replicate 16 0)) 22), (b3, .cells (BV b) 22), (b2, .cells (BV (expand key) ++ BV sboxV) 45)] w)<|have hS := hS.drew; jx (hS.sl 4 14) fun jj =>dx 1 O (by kernel_rfl) (fun w hS =>mv O O O rr) jj<|dx 2 O (by kernel_rfl) (fun w hS =>fan 0 0 un45 O sz42 (by decide) O O O O (by omega) rr) jj<|dx 3 O (by kernel_rfl) (fun w hS =>ian (j + 1) ((j + 1) * 16) un42 sz22 O O O O (by omega) (by omega) (by omega) rr) jj<|dx 4 O (by kernel_rfl) (fun w hS =>lp (u := .agg (BV (seg8 16 (expand key) ((j + 1) * 16)))) 2 ag22 hS O O O O (le_sz (a := 432) (cat_size (a := 176) (b := 256) (BV_size _) (BV_size _)) (by omega)) (cat_xl (a := 176) (BV_size _) (by omega) (BV_extract 16 _ ((j + 1) * 16) (by omega))) O rr) jj ?_
    refine dl 0 O (by kernel_rfl)<|la 0 ag268 hS O O O O (BV_size _)<|lx (hS.sl 4 14) fun jj =>?_
    refine dl 5 O (by kernel_rfl)<|cv cf185 hS O O O O O (sp_mooringref06_Add ((shG (subG (enG key b j) sboxV))) ((seg8 16 (expand key) ((j + 1) * 16))) _) fun w hS =>lx (hS.sl 4 14) fun jj =>?_
    refine dl 6 O (by kernel_rfl)<|sa 0 ag268 hS O O O (BV_one _) O (BV_size _) (BV_size _) fun w hS =>ly O<|de (by kernel_rfl)<|q_block_norm<|wt<|wc_region<|mv O O O<|addi (by omega) (by omega) O O O O<|asg O O O ?_
    refine again_q (j + 1) ⟨O, O, O, lkI O (by first | omega | rfl), trivial⟩ ⟨by omega, (by rw [en_hi (by omega)]; exact hS)⟩ (by omega)
  ·try simp only [SB] at hc1
   refine wc_exit<|q_then_exit<|q_then_exit<|q_block_hit<|wt<|rg<|la 0 ag268 hS O O O O (BV_size _)<|cv cf189 hS O O O O O (sp_mooringref06_Block ((enG key b j)) _) fun w hS =>sa 1 ag22 hS O O O (BV_one _) O (BV_size _) (BV_size _) fun w hS =>wt<|wc_ret<|fin1 (v := .agg (BV (blG (enG key b j)))) O ⟨_, O, lv_a ag22 (hS.get 1 O) (BV_size _)⟩ ?_
   refine ⟨?_, hS.drop⟩
   have hj : j = 10 := by omega
   rw [hj]
   exact congrArg (fun x => Ending.returned (.agg (BV x))) (encG_enc key b)
theorem sp_mooringref08_Xor (a b : V8 16) (w0 : World) : Calls Tryz.prog 155 #[.agg (BV a), .agg (BV b)] w0 (Ret w0 (.agg (BV (xorV a b)))) := by
 refine enter (args := [.agg (BV a), .agg (BV b)]) Tryz.func155 O O<|startw fun w hS =>rg<|bxa hS O O O fun b2 w hb2 hS =>bxa hS O O O fun b3 w hb3 hS =>ala zr22 hS O O fun b4 w hb4 hS =>wt<|wc_seq<|rg<|asg O O O<|wt<|wc_block ?_
 refine wc_loop (σ := Nat) (fun k =>[(2, Ptr b2 0), (3, Ptr b3 0), (4, Ptr b4 0), (5, I ((k : Int)))])
  (fun k w => (k ≤ 16) ∧ St w0 [] [(b4, .cells (BV (Vector.replicate 16 0)) 22), (b3, .cells (BV b) 22), (b2, .cells (BV (fill8 16 (fun i => gv a i ^^^ gv b i) a k)) 22)] w) (fun k => 16 - k) 0 ⟨rfl, rfl, rfl, rfl, trivial⟩ ⟨by omega, (by simp only [Nat.zero_mul, Nat.add_zero, fill8_0, fill32_0]; exact hS)⟩ ?_
 rintro k w ⟨hk, hS⟩
 refine wc_seq<|rg<|mv O O O<|lss O O O O<|wt ?_
 refine wc_if O (fun hc1 =>?_) (fun hc1 =>?_)
 ·try simp only [SB] at hc1
  refine wc_skip<|wt<|wc_seq<|wc_block<|wc_draw mo 8 (fun w =>St w0 [] [(b4, .cells (BV (Vector.replicate 16 0)) 22), (b3, .cells (BV b) 22)] w)<|have hS := hS.drew; jx (hS.sl 2 3) fun jj =>dx 0 O (by kernel_rfl) (fun w hS =>mv O O O rr) jj<|dx 1 O (by kernel_rfl) (fun w hS =>mv O O O rr) jj<|dx 2 O (by kernel_rfl) (fun w hS =>ian k k un22 sz5 O O O O (by omega) (by omega) (by omega) rr) jj<|dx 4 O (by kernel_rfl) (fun w hS =>mv O O O rr) jj<|dx 5 O (by kernel_rfl) (fun w hS =>ian k k un22 sz5 O O O O (by omega) (by omega) (by omega) rr) jj<|dx 6 O (by kernel_rfl) (fun w hS =>lo 1 sc5 hS O O O O (BV_get _ k (by omega)) rr) jj ?_
  refine dl 3 O (by kernel_rfl)<|lo 2 sc5 hS O O O O (BV_get _ k (by omega))<|lx (hS.sl 2 3) fun jj =>dx 7 O (by kernel_rfl) (fun w hS =>xor8 O O O O rr) jj ?_
  refine dl 8 O (by kernel_rfl)<|ian k k un22 sz5 O O O O (by omega) (by omega) (by omega)<|ly O ?_
  refine dl 9 O (by kernel_rfl)<|st (cs' := BV (fill8 16 (fun i =>gv a i ^^^ gv b i) a (k + 1))) 2 sz5 hS O O O O O O (by rw [BV_size]; omega) (by rw [BV_set, gv_fill_ge _ _ (Nat.le_refl _)]; exact congrArg BV (fill8_succ (fun i => gv a i ^^^ gv b i) a k)) fun w hS =>ly O<|de (by kernel_rfl)<|q_block_norm<|wt<|wc_region<|mv O O O<|addi (by omega) (by omega) O O O O<|asg O O O ?_
  refine again_q (k + 1) ⟨O, O, O, lkI O (by first | omega | rfl), trivial⟩ ⟨by omega, hS⟩ (by omega)
 ·try simp only [SB] at hc1
  refine wc_exit<|q_then_exit<|q_then_exit<|q_block_hit<|wt<|rg<|la 2 ag22 hS O O O O (BV_size _)<|sa 0 ag22 hS O O O (BV_one _) O (BV_size _) (BV_size _) fun w hS =>wt<|wc_ret<|fin1 (v := .agg (BV (fill8 16 (fun i =>gv a i ^^^ gv b i) a k))) O ⟨_, O, lv_a ag22 (hS.get 0 O) (BV_size _)⟩ ?_
  refine ⟨?_, hS.drop⟩
  have hk4 : k = 16 := by omega
  subst hk4; rw [fill8_n]; rfl
theorem sp_mooringref08_Part (a : Option Addr) (n cap : Nat) (bs : List UInt8) (i : Nat) (i_ : Int) (w0 : World) (hi_ : i_ = (i : Int)) (hn : bs.length = n) (hN : n ≤ 1000000) (hc : Cel w0 a (c8 bs)) (hcap : n ≤ cap) (hi : i * 16 + 16 ≤ n) : Calls Tryz.prog 158 #[.slice a n cap, I i_] w0 (Ret w0 (.agg (BV (blk bs i)))) := by
 subst hi_
 refine enter (args := [.slice a n cap, I (i : Int)]) Tryz.func158 O O<|startw fun w hS =>rg<|ala zr22 hS O O fun b4 w hb4 hS =>wt<|rg<|mv O O O<|mv O O O<|muli (by omega) (by omega) O O O O<|mv O O O<|muli (by omega) (by omega) O O O O<|addi (by omega) (by omega) O O O O ?_
 refine s_lh (16 * i) ((16 * i) + 16) un30 sz5 O O O O O (by omega) (by omega) (by omega) (by omega)<|s2b un22 O O O (by omega) ((((hc.st hS).take8 ((16 * i) + 16)).drop8 (lo := 16 * i) (cap := cap) (by first | omega | (simp; omega) | simp)).some8 (j := 0) (by first | omega | (simp; omega) | simp))<|ld O O O (lv_celj 0 ag22 (((hc.st hS).take8 ((16 * i) + 16)).drop8 (lo := 16 * i) (cap := cap) (by first | omega | (simp; omega) | simp)) (by first | omega | (simp; done) | (simp; omega)) (by omega))<|sa 0 ag22 hS O O O (BV_one _) O (BV_size _) (BV_size _) fun w hS =>wt<|wc_ret<|fin1 (v := .agg (BV (ofl 16 (((bs).take ((16 * i) + 16)).drop (16 * i))))) O ⟨_, O, lv_a ag22 (hS.get 0 O) (BV_size _)⟩ ?_
 refine ⟨?_, hS.drop⟩
 rw [part_blk]
theorem sp_mooringref08_Pad (a : Option Addr) (n cap : Nat) (bs : List UInt8) (w0 : World) (hn : bs.length = n) (hN : n ≤ 1000000) (hc : Cel w0 a (c8 bs)) (h16 : n < 16) : Calls Tryz.prog 160 #[.slice a n cap] w0 (Ret w0 (.agg (BV (padV bs)))) := by
 refine enter (args := [.slice a n cap]) Tryz.func160 O O<|startw fun w hS =>rg<|ala zr22 hS O O fun b2 w hb2 hS =>wt<|rg<|bsl (cs := #[]) sl30 hS O O O O (by kernel_rfl) fun b4 w hb4 hS =>mv O O O<|app (A := [(b2, .cells (BV (Vector.replicate 16 0)) 22)]) (X := [(b4, .cells (#[]) 5)]) (R := []) sl30 (Own.blk (n := 0) O (by decide)) ((hS.napp).toend 0 O) O O O O (src8 un30 _ (hc.st hS) (by first | rfl | omega | (simp; omega) | (simp; done))) (by omega) (by omega) fun a6 c6 X6 w hO6 hS =>?_
 have hO6 : Own _ a6 (0 + n) c6 (c8 (bs)) X6 := hO6
 refine bsl (cs := #[U8 (128)]) sl30 hS O O O O (by kernel_rfl) fun b7 w hb7 hS =>app (A := [(b7, .cells (#[U8 (128)]) 5), (b2, .cells (BV (Vector.replicate 16 0)) 22)]) (R := []) sl30 hO6 hS O O O O (src8 un30 _ (Cel.lb (l := [128]) (hS.get 0 O)) (by first | rfl | omega | (simp; omega) | (simp; done))) (by omega) (by omega) fun a8 cq8 X8 w hO8 hS =>?_
 try simp only [c8_app] at hO8
 refine asg O O O<|wt<|wc_seq<|wc_block ?_
 refine wc_loop (σ := (Nat × Option Addr × Nat × List (Nat × Obj))) (fun s =>[(2, Ptr b2 0), (3, .slice s.2.1 (0 + n + 1 + s.1) s.2.2.1)])
  (fun s w => (0 + n + 1 + s.1 ≤ 16 ∧ Own 1 s.2.1 (0 + n + 1 + s.1) s.2.2.1 (c8 (bs ++ [128] ++ List.replicate s.1 0)) s.2.2.2) ∧ St w0 [] ([(b7, .cells (#[U8 (128)]) 5), (b2, .cells (BV (Vector.replicate 16 0)) 22)] ++ (s.2.2.2 ++ [])) w) (fun s => 16 - s.1) (0, a8, cq8, X8) ⟨rfl, rfl, trivial⟩ ⟨⟨by omega, by simpa using hO8⟩, hS⟩ ?_
 rintro s w ⟨⟨hk, hO⟩, hS⟩
 refine wc_seq<|rg<|mv O O O<|lens un30 O O O<|lss O O O O<|wt ?_
 refine wc_if O (fun hc1 =>?_) (fun hc1 =>?_)
 ·try simp only [SB] at hc1
  refine wc_skip<|wt<|wc_block<|wc_region<|mv O O O<|bsl (cs := #[U8 (0)]) sl30 hS O O O O (by kernel_rfl) fun b13 w hb13 hS =>app (A := [(b13, .cells (#[U8 (0)]) 5), (b7, .cells (#[U8 (128)]) 5), (b2, .cells (BV (Vector.replicate 16 0)) 22)]) (R := []) sl30 hO hS O O O O (src8 un30 _ (Cel.lb (l := [0]) (hS.get 0 O)) (by first | rfl | omega | (simp; omega) | (simp; done))) (by omega) (by omega) fun a14 c14 X14 w hO14 hS =>?_
  try simp only [c8_app] at hO14
  refine asg O O O<|q_block_norm ?_
  refine again_q (s.1 + 1, a14, c14, X14) ⟨O, O, trivial⟩ ⟨⟨by omega, by rw [List.replicate_succ', ← List.append_assoc]; exact hO14⟩, hS.tl⟩ (by omega)
 ·try simp only [SB] at hc1
  have hk4 : 0 + n + 1 + s.1 = 16 := by omega
  refine wc_exit<|q_then_exit<|q_then_exit<|q_block_hit<|wt<|rg<|mv O O O<|s2b un22 O O O (by omega) ((hO.cel hS (fun p hp =>by simp [hp])).some8 (j := 0) (by first | omega | (simp; omega) | simp))<|ld O O O (lv_celj 0 ag22 (hO.cel hS (fun p hp =>by simp [hp])) (by first | omega | (simp; done) | (simp; omega)) (by omega))<|sa 1 ag22 hS O O O (BV_one _) O (BV_size _) (BV_size _) fun w hS =>wt<|wc_ret ?_
  refine fin1 (v := .agg (BV (ofl 16 (bs ++ [128] ++ List.replicate s.1 0)))) O ⟨_, O, lv_a ag22 (hS.get 1 O) (BV_size _)⟩ ?_
  refine ⟨?_, hS.drop⟩
  rw [pad_l bs s.1 (by omega)]
theorem sp_mooringref08_Xor2 (a b : V8 16) (w0 : World) : Calls Tryz.prog 155 #[.agg (BV a), .agg (BV b)] w0 (Ret w0 (.agg (BV (xorV b a)))) := by
 refine enter (args := [.agg (BV a), .agg (BV b)]) Tryz.func155 O O<|startw fun w hS =>rg<|bxa hS O O O fun b2 w hb2 hS =>bxa hS O O O fun b3 w hb3 hS =>ala zr22 hS O O fun b4 w hb4 hS =>wt<|wc_seq<|rg<|asg O O O<|wt<|wc_block ?_
 refine wc_loop (σ := Nat) (fun k =>[(2, Ptr b2 0), (3, Ptr b3 0), (4, Ptr b4 0), (5, I ((k : Int)))])
  (fun k w => (k ≤ 16) ∧ St w0 [] [(b4, .cells (BV (Vector.replicate 16 0)) 22), (b3, .cells (BV b) 22), (b2, .cells (BV (fill8 16 (fun i => gv a i ^^^ gv b i) a k)) 22)] w) (fun k => 16 - k) 0 ⟨rfl, rfl, rfl, rfl, trivial⟩ ⟨by omega, (by simp only [Nat.zero_mul, Nat.add_zero, fill8_0, fill32_0]; exact hS)⟩ ?_
 rintro k w ⟨hk, hS⟩
 refine wc_seq<|rg<|mv O O O<|lss O O O O<|wt ?_
 refine wc_if O (fun hc1 =>?_) (fun hc1 =>?_)
 ·try simp only [SB] at hc1
  refine wc_skip<|wt<|wc_seq<|wc_block<|wc_draw mo 8 (fun w =>St w0 [] [(b4, .cells (BV (Vector.replicate 16 0)) 22), (b3, .cells (BV b) 22)] w)<|have hS := hS.drew; jx (hS.sl 2 3) fun jj =>dx 0 O (by kernel_rfl) (fun w hS =>mv O O O rr) jj<|dx 1 O (by kernel_rfl) (fun w hS =>mv O O O rr) jj<|dx 2 O (by kernel_rfl) (fun w hS =>ian k k un22 sz5 O O O O (by omega) (by omega) (by omega) rr) jj<|dx 4 O (by kernel_rfl) (fun w hS =>mv O O O rr) jj<|dx 5 O (by kernel_rfl) (fun w hS =>ian k k un22 sz5 O O O O (by omega) (by omega) (by omega) rr) jj<|dx 6 O (by kernel_rfl) (fun w hS =>lo 1 sc5 hS O O O O (BV_get _ k (by omega)) rr) jj ?_
  refine dl 3 O (by kernel_rfl)<|lo 2 sc5 hS O O O O (BV_get _ k (by omega))<|lx (hS.sl 2 3) fun jj =>dx 7 O (by kernel_rfl) (fun w hS =>xor8 O O O O rr) jj ?_
  refine dl 8 O (by kernel_rfl)<|ian k k un22 sz5 O O O O (by omega) (by omega) (by omega)<|ly O ?_
  refine dl 9 O (by kernel_rfl)<|st (cs' := BV (fill8 16 (fun i =>gv a i ^^^ gv b i) a (k + 1))) 2 sz5 hS O O O O O O (by rw [BV_size]; omega) (by rw [BV_set, gv_fill_ge _ _ (Nat.le_refl _)]; exact congrArg BV (fill8_succ (fun i => gv a i ^^^ gv b i) a k)) fun w hS =>ly O<|de (by kernel_rfl)<|q_block_norm<|wt<|wc_region<|mv O O O<|addi (by omega) (by omega) O O O O<|asg O O O ?_
  refine again_q (k + 1) ⟨O, O, O, lkI O (by first | omega | rfl), trivial⟩ ⟨by omega, hS⟩ (by omega)
 ·try simp only [SB] at hc1
  refine wc_exit<|q_then_exit<|q_then_exit<|q_block_hit<|wt<|rg<|la 2 ag22 hS O O O O (BV_size _)<|sa 0 ag22 hS O O O (BV_one _) O (BV_size _) (BV_size _) fun w hS =>wt<|wc_ret<|fin1 (v := .agg (BV (fill8 16 (fun i =>gv a i ^^^ gv b i) a k))) O ⟨_, O, lv_a ag22 (hS.get 0 O) (BV_size _)⟩ ?_
  refine ⟨?_, hS.drop⟩
  have hk4 : k = 16 := by omega
  subst hk4; rw [fill8_n, xorV_comm b a]; rfl
theorem sp_mooringref09_Star (key : V8 16) (w0 : World) : Calls Tryz.prog 153 #[.agg (BV (expand key) ++ BV sboxV)] w0 (Ret w0 (.agg (BV (star key)))) := by
 refine enter (args := [.agg (BV (expand key) ++ BV sboxV)]) Tryz.func153 O O<|startw fun w hS =>rg<|bxa hS O O O fun b1 w hb1 hS =>ala zr22 hS O O fun b2 w hb2 hS =>wt<|rg<|la 1 ag45 hS O O O O (cat_size (a := 176) (b := 256) (BV_size _) (BV_size _))<|bd (cs := BV (Vector.replicate 16 0)) O O O (by kernel_rfl)<|cv cf159 hS O O O O O (sp_mooringref06_Encrypt key ((Vector.replicate 16 0)) _) fun w hS =>sa 0 ag22 hS O O O (BV_one _) O (BV_size _) (BV_size _) fun w hS =>wt ?_
 refine wc_ret<|fin1 (v := .agg (BV (enc key (Vector.replicate 16 0)))) O ⟨_, O, lv_a ag22 (hS.get 0 O) (BV_size _)⟩ ?_
 exact ⟨rfl, hS.drop⟩
theorem sp_mooringref01_Zeros (x : UInt64) (w0 : World) : Calls Tryz.prog 182 #[U64 x] w0 (Ret w0 (I ((zerosN x : Nat) : Int))) := by
 refine enter (args := [U64 x]) Tryz.func182 O O<|startw fun w hS =>rg<|asg O O O<|wt<|rg<|asg O O O<|wt<|wc_seq<|wc_block ?_
 refine wc_loop (σ := Nat) (fun k =>[(0, U64 (zx x k)), (2, I 0), (3, I ((k : Int)))])
  (fun k w => (k ≤ 64 ∧ ∀ j, j < k → zx x j % 2 = 0) ∧ St w0 [] [] w) (fun k => 64 - k) 0 ⟨rfl, rfl, rfl, trivial⟩ ⟨⟨by omega, fun j hj => by omega⟩, hS⟩ ?_
 rintro k w ⟨⟨hk, hz⟩, hS⟩
 refine wc_seq<|rg<|mv O O O<|lss O O O O<|mv O O O ?_
 refine spl 6 O (fun hb1 =>?_) (fun hb1 =>?_)
 ·try simp only [SB] at hb1
  refine mv O O O<|rem64 (q := (2 : UInt64)) (by decide) O O O O<|eqi O O O O<|pk_t O O O O<|wt ?_
  refine wc_if O (fun hc1 =>?_) (fun hc1 =>?_)
  ·try simp only [SB] at hc1
   have he : zx x k % 2 = 0 := UInt64.toNat_inj.1 (show (zx x k % 2).toNat = 0 by omega)
   refine wc_skip<|wt<|wc_block<|rg<|mv O O O<|quo64 (q := (2 : UInt64)) (by decide) O O O O<|asg O O O<|wt<|wc_region<|mv O O O<|addi (by omega) (by omega) O O O O<|asg O O O ?_
   refine q_block_norm ?_
   refine again_q (k + 1) ⟨O, O, lkI O (by first | omega | rfl), trivial⟩ ⟨⟨by omega, fun j hj =>by by_cases e : j = k; exact e ▸ he; exact hz j (by omega)⟩, hS⟩ (by omega)
  ·try simp only [SB] at hc1
   have he : ¬ zx x k % 2 = 0 := fun e => hc1 (by rw [e]; rfl)
   refine wc_exit<|q_then_exit<|q_then_exit<|q_block_hit<|wt<|rg<|mv O O O<|asg O O O<|wt<|wc_ret<|fin1 (v := I ((k : Int))) O O ?_
   refine ⟨?_, hS.drop⟩
   first | (rw [zr_stop x k (by omega) hz he]) | (rw [hk64] at hz ⊢; rw [zr_end x hz])
 ·try simp only [SB] at hb1
  have hk64 : k = 64 := by omega
  refine no O O<|no O O<|no O O<|pk_f O O O O<|wt<|wc_if_f O<|wc_exit<|q_then_exit<|q_then_exit<|q_block_hit<|wt<|rg ?_
  refine mv O O O<|asg O O O<|wt<|wc_ret<|fin1 (v := I ((k : Int))) O O ?_
  refine ⟨?_, hS.drop⟩
  first | (rw [zr_stop x k (by omega) hz he]) | (rw [hk64] at hz ⊢; rw [zr_end x hz])
theorem sp_mooringref08_Bits (a : Option Addr) (n cap : Nat) (bs : List UInt8) (w0 : World) (hn : bs.length = n) (hN : n ≤ 1000000) (hc : Cel w0 a (c8 bs)) : Calls Tryz.prog 191 #[.slice a n cap] w0 (RetS w0 (fun v X => ∃ a' c', v = .slice a' (n * 8) c' ∧ Own 1 a' (n * 8) c' (ci (biL bs n)) X)) := by
 refine enter (args := [.slice a n cap]) Tryz.func191 O O<|startw fun w hS =>rg<|asg O O O<|wt<|rg<|asg O O O<|wt<|wc_seq<|rg<|asg O O O<|wt ?_
 refine wc_block ?_
 refine wc_loop (σ := (Nat × Option Addr × Nat × List (Nat × Obj))) (fun s =>[(0, .slice a n cap), (2, (.slice none 0 0)), (3, .slice s.2.1 (s.1 * 8) s.2.2.1), (4, I ((s.1 : Int)))])
  (fun s w => (s.1 ≤ n ∧ Own 1 s.2.1 (s.1 * 8) s.2.2.1 (ci (biL bs s.1)) s.2.2.2) ∧ St w0 [] ([] ++ (s.2.2.2 ++ [])) w) (fun s => n - s.1) (0, none, 0, []) ⟨rfl, rfl, rfl, rfl, trivial⟩ ⟨⟨by omega, Own.nil 1⟩, (by simpa using hS)⟩ ?_
 rintro s w ⟨⟨hk, hO⟩, hS⟩
 refine wc_seq<|rg<|mv O O O<|mv O O O<|lens un30 O O O<|lss O O O O<|wt ?_
 refine wc_if O (fun hc1 =>?_) (fun hc1 =>?_)
 ·try simp only [SB] at hc1
  refine wc_skip<|wt<|wc_seq<|wc_block<|rg<|asg O O O<|wt<|wc_block ?_
  refine wc_loop (σ := (Nat × Option Addr × Nat × List (Nat × Obj))) (fun u =>[(0, .slice a n cap), (2, (.slice none 0 0)), (3, .slice u.2.1 (s.1 * 8 + u.1) u.2.2.1), (4, I ((s.1 : Int))), (5, I ((7 : Int) - (u.1 : Int)))])
   (fun u w => (u.1 ≤ 8 ∧ Own 1 u.2.1 (s.1 * 8 + u.1) u.2.2.1 (ci (biL bs s.1 ++ btL (gl bs s.1) u.1)) u.2.2.2) ∧ St w0 [] ([] ++ (u.2.2.2 ++ [])) w) (fun u => 8 - u.1) (0, s.2.1, s.2.2.1, s.2.2.2) ⟨rfl, rfl, rfl, rfl, rfl, trivial⟩ ⟨⟨by omega, by simpa [btL] using hO⟩, hS⟩ ?_
  rintro u w ⟨⟨hj, hO⟩, hS⟩
  refine wc_seq<|rg<|mv O O O<|geq O O O O<|wt ?_
  refine wc_if O (fun hc2 =>?_) (fun hc2 =>?_)
  ·try simp only [SB] at hc2
   refine wc_skip<|wt<|wc_seq<|wc_block<|wc_region<|mv O O O<|mv O O O<|mv O O O<|slx s.1 un30 sz5 O O O O (by omega) (by omega) ((hc.st hS).some8 (j := s.1) (by first | omega | (simp; done) | (simp; omega)))<|ldx sc5 O O O (hc.st hS) (by first | omega | (simp; done) | (simp; omega))<|mv O O O<|cvu64 un171 ⟨_, un3⟩ O O O ?_
   refine shrn8 (7 - u.1) (toU64_un (by omega) (by omega)) O O O O<|cvi un3 ⟨_, un5⟩ (by have := (shr8 (gl bs s.1) (7 - u.1)).toNat_lt; omega) (by have := (shr8 (gl bs s.1) (7 - u.1)).toNat_lt; omega) O O O<|remi (by omega) (by omega) O O O O<|bsl (cs := #[I (((shr8 (gl bs s.1) (7 - u.1)).toNat : Int) % 2)]) sl274 hS O O O O (by kernel_rfl) fun b26 w hb26 hS =>app (A := [(b26, .cells (#[I (((shr8 (gl bs s.1) (7 - u.1)).toNat : Int) % 2)]) 3)]) (R := []) sl274 hO hS O O O O (srci un274 _ (show Cel _ _ (ci ([((shr8 (gl bs s.1) (7 - u.1)).toNat) % 2])) from Cel.cs (hS.get 0 O)) O (fun h =>by cases h)) (by omega) (by omega) fun a27 c27 X27 w hO27 hS =>?_
   try simp only [ci_app] at hO27
   refine asg O O O<|q_block_norm<|wt<|wc_region<|mv O O O<|subi (by omega) (by omega) O O O O<|asg O O O ?_
   refine again_q (u.1 + 1, a27, c27, X27) ⟨O, O, O, O, lkI O (by omega), trivial⟩ ⟨⟨by omega, by have h := hO27; rw [List.append_assoc] at h; exact h⟩, hS.tl⟩ (by omega)
  ·try simp only [SB] at hc2
   have hj8 : u.1 = 8 := by omega
   have e8 : s.1 * 8 + u.1 = (s.1 + 1) * 8 := by omega
   rw [e8]
   rw [e8, hj8] at hO
   have hO : Own 1 u.2.1 ((s.1 + 1) * 8) u.2.2.1 (ci (biL bs (s.1 + 1))) u.2.2.2 := hO
   refine wc_exit<|q_then_exit<|q_then_exit<|q_block_hit<|q_block_norm<|wt<|wc_region<|mv O O O<|addi (by omega) (by omega) O O O O<|asg O O O ?_
   refine again_q (s.1 + 1, u.2.1, u.2.2.1, u.2.2.2) ⟨O, O, O, lkI O (by first | omega | rfl), trivial⟩ ⟨⟨by omega, hO⟩, hS⟩ (by omega)
 ·try simp only [SB] at hc1
  refine wc_exit<|q_then_exit<|q_then_exit<|q_block_hit<|wt<|rg<|mv O O O<|asg O O O<|wt<|wc_ret<|fin1 (v := .slice s.2.1 (s.1 * 8) s.2.2.1) O O ?_
  have hk4 : s.1 = n := by omega
  rw [hk4] at hO
  exact ⟨_, _, rfl, ⟨_, _, by rw [hk4], hO⟩, by simpa using hS⟩
theorem sp_mooringref08_Of (a : Option Addr) (n cap : Nat) (bs : List Nat) (w0 : World) (hn : bs.length = n) (hN : n ≤ 1000000) (hc : Cel w0 a (ci bs)) (h128 : 128 ≤ n) : Calls Tryz.prog 192 #[.slice a n cap] w0 (Ret w0 (.agg (BV (ofB bs)))) := by
 refine enter (args := [.slice a n cap]) Tryz.func192 O O<|startw fun w hS =>rg<|ala zr22 hS O O fun b2 w hb2 hS =>wt<|rg<|ala zr22 hS O O fun b3 w hb3 hS =>wt<|wc_seq<|rg<|asg O O O<|wt ?_
 refine wc_block ?_
 refine wc_loop (σ := Nat) (fun k =>[(0, .slice a n cap), (2, Ptr b2 0), (3, Ptr b3 0), (4, I ((k : Int)))])
  (fun k w => (k ≤ 128) ∧ St w0 [] [(b3, .cells (BV (ofS bs k)) 22), (b2, .cells (BV (Vector.replicate 16 0)) 22)] w) (fun k => 128 - k) 0 ⟨rfl, rfl, rfl, rfl, trivial⟩ ⟨by omega, hS⟩ ?_
 rintro k w ⟨hk, hS⟩
 refine wc_seq<|rg<|mv O O O<|lss O O O O<|wt ?_
 refine wc_if O (fun hc1 =>?_) (fun hc1 =>?_)
 ·try simp only [SB] at hc1
  refine wc_skip<|wt<|wc_seq<|wc_block<|wc_draw mo 13 (fun w =>St w0 [] [(b2, .cells (BV (Vector.replicate 16 0)) 22)] w)<|have hS := hS.drew; jx (hS.sl 2 2) fun jj =>dx 0 O (by kernel_rfl) (fun w hS =>mv O O O rr) jj<|dx 1 O (by kernel_rfl) (fun w hS =>quoi (by omega) (by omega) (by omega) O O O O rr) jj<|dx 2 O (by kernel_rfl) (fun w hS =>mv O O O rr) jj<|dx 3 O (by kernel_rfl) (fun w hS =>quoi (by omega) (by omega) (by omega) O O O O rr) jj<|dx 4 O (by kernel_rfl) (fun w hS =>ian (k / 8) ((k / 8)) un22 sz5 O O O O (by omega) (by omega) (by omega) rr) jj<|dx 7 O (by kernel_rfl) (fun w hS =>mv O O O rr) jj ?_
  refine dx 8 O (by kernel_rfl) (fun w hS =>mv O O O rr) jj<|dx 9 O (by kernel_rfl) (fun w hS =>slx k un274 sz3 O O O O (by omega) (by omega) ((hc.st hS).somei (j := k) (by first | omega | (simp; done) | (simp; omega))) rr) jj<|dx 10 O (by kernel_rfl) (fun w hS =>ldxi sc3 O O O (hc.st hS) (by first | omega | (simp; done) | (simp; omega)) rr) jj<|dx 11 O (by kernel_rfl) (fun w hS =>cvu8 un5 ⟨_, un3⟩ O O O rr) jj ?_
  refine dl 5 O (by kernel_rfl)<|lo 0 sc5 hS O O O O (BV_get _ (k / 8) (by omega))<|lx (hS.sl 2 2) fun jj =>dx 6 O (by kernel_rfl) (fun w hS =>mul8 (q := (2 : UInt8)) O O O O rr) jj<|dx 12 O (by kernel_rfl) (fun w hS =>add8 O O O O rr) jj ?_
  refine dl 13 O (by kernel_rfl)<|ian (k / 8) ((k / 8)) un22 sz5 O O O O (by omega) (by omega) (by omega)<|ly O ?_
  refine dl 14 O (by kernel_rfl)<|st 0 sz5 hS O O O O O O (by rw [BV_size]; omega) (BV_set _ _ (((gv (ofS bs k) (k / 8)) * 2) + (toU8 (((gi bs k : Nat) : Int))) : UInt8)) fun w hS =>ly O<|de (by kernel_rfl)<|q_block_norm<|wt<|wc_region<|mv O O O<|addi (by omega) (by omega) O O O O<|asg O O O ?_
  refine again_q (k + 1) ⟨O, O, O, lkI O (by first | omega | rfl), trivial⟩ ⟨by omega, hS⟩ (by omega)
 ·try simp only [SB] at hc1
  refine wc_exit<|q_then_exit<|q_then_exit<|q_block_hit<|wt<|rg<|la 0 ag22 hS O O O O (BV_size _)<|sa 1 ag22 hS O O O (BV_one _) O (BV_size _) (BV_size _) fun w hS =>wt<|wc_ret<|fin1 (v := .agg (BV (ofS bs k))) O ⟨_, O, lv_a ag22 (hS.get 1 O) (BV_size _)⟩ ?_
  refine ⟨?_, hS.drop⟩
  have hk4 : k = 128 := by omega
  rw [hk4]; rfl
theorem sp_mooringref08_Double (b : V8 16) (w0 : World) : Calls Tryz.prog 161 #[.agg (BV b)] w0 (Ret w0 (.agg (BV (dblB b)))) := by
 refine enter (args := [.agg (BV b)]) Tryz.func161 O O<|startw fun w hS =>rg<|bxa hS O O O fun b1 w hb1 hS =>ala zr22 hS O O fun b2 w hb2 hS =>wt<|rg<|a_all un22 ⟨_, sz5⟩ O O O<|cs cf191 hS O O O O O (sp_mooringref08_Bits ((some ⟨b1, 0, none⟩)) 16 16 b.toList _ Vector.length_toList (by omega) (Cel.bv (hS.get 1 O))) ?_
 rintro _ X6 w ⟨a6, c6, rfl, hO6⟩ hS
 have hS := St.tailin (X := X6) hS [(b2, .cells (BV (Vector.replicate 16 0)) 22), (b1, .cells (BV b) 22)] [] rfl
 refine asg O O O<|wt<|rg<|mv O O O<|s_l 1 un274 sz3 O O O O (by omega) (by omega)<|bsl (cs := #[I (0)]) sl274 hS O O O O (by kernel_rfl) fun b9 w hb9 hS =>apptl (A := [(b9, .cells (#[I (0)]) 3), (b2, .cells (BV (Vector.replicate 16 0)) 22), (b1, .cells (BV b) 22)]) (R := []) sl274 hO6 (by omega) hS O O O O (srci un274 _ (show Cel _ _ (ci ([0])) from Cel.cs (hS.get 0 O)) O (fun h =>by cases h)) (by omega) (by omega) fun a10 c10 X10 w hs10 hle10 hk10 hS =>cv cf192 hS O O O O O (sp_mooringref08_Of a10 (((16 * 8) - 1 + 1)) c10 (((biL b.toList 16).drop 1 ++ ([0]))) _ (by first | (simp; done) | (simp; omega)) (by omega) ((hk10 _ _ _ _ hS (fun p hp =>by simp [hp])).1) (by omega)) fun w hS =>ala zr22 hS O O fun b4 w hb4 hS =>sa 0 ag22 hS O O O (BV_one _) O (BV_size _) (BV_size _) fun w hS =>wt<|wc_seq ?_
 refine rg<|mv O O O<|slx 0 un274 sz3 O O O O (by omega) (by omega) (((hk10 _ _ _ _ hS (fun p hp =>by simp [hp])).2).somei (j := 0) (by first | omega | (simp; done) | (simp; omega)))<|ldxi sc3 O O O ((hk10 _ _ _ _ hS (fun p hp =>by simp [hp])).2) (by first | omega | (simp; done) | (simp; omega))<|eqi O O O O<|wt ?_
 refine wc_if O (fun hc1 =>?_) (fun hc1 =>?_)
 ·try simp only [SB] at hc1
  have hq : gi (biL b.toList 16) 0 = 1 := by omega
  refine wc_region<|ian 15 15 un22 sz5 O O O O (by omega) (by omega) (by omega)<|lo 0 sc5 hS O O O O (BV_get _ 15 (by omega))<|xor8 (q := (135 : UInt8)) O O O O<|ian 15 15 un22 sz5 O O O O (by omega) (by omega) (by omega)<|st 0 sz5 hS O O O O O O (by rw [BV_size]; omega) (BV_set _ _ ((gv (ofB ((biL b.toList 16).drop 1 ++ ([0]))) 15) ^^^ 135 : UInt8)) fun w hS =>wt<|rg<|la 0 ag22 hS O O O O (BV_size _)<|sa 2 ag22 hS O O O (BV_one _) O (BV_size _) (BV_size _) fun w hS =>wt<|wc_ret ?_
  refine fin1 (v := .agg (BV ((ofB ((biL b.toList 16).drop 1 ++ ([0]))).setIfInBounds 15 ((gv (ofB ((biL b.toList 16).drop 1 ++ ([0]))) 15) ^^^ 135)))) O ⟨_, O, lv_a ag22 (hS.get 2 O) (BV_size _)⟩ ?_
  refine ⟨?_, hS.drop⟩
  rw [← dbR_eq, dbR, if_pos hq]; rfl
 ·try simp only [SB] at hc1
  have hq : ¬ gi (biL b.toList 16) 0 = 1 := by omega
  refine wc_skip<|wt<|rg<|la 0 ag22 hS O O O O (BV_size _)<|sa 2 ag22 hS O O O (BV_one _) O (BV_size _) (BV_size _) fun w hS =>wt<|wc_ret<|fin1 (v := .agg (BV (ofB ((biL b.toList 16).drop 1 ++ ([0]))))) O ⟨_, O, lv_a ag22 (hS.get 2 O) (BV_size _)⟩ ?_
  refine ⟨?_, hS.drop⟩
  rw [← dbR_eq, dbR, if_neg hq]; rfl
theorem sp_mooringref09_At (s : V8 16) (i : Nat) (i_ : Int) (w0 : World) (hi_ : i_ = (i : Int)) (hi : i ≤ 64) : Calls Tryz.prog 181 #[.agg (BV s), I i_] w0 (Ret w0 (.agg (BV (dbN s (i + 1))))) := by
 subst hi_
 refine enter (args := [.agg (BV s), I (i : Int)]) Tryz.func181 O O<|startw fun w hS =>rg<|bxa hS O O O fun b2 w hb2 hS =>ala zr22 hS O O fun b4 w hb4 hS =>wt<|rg<|la 1 ag22 hS O O O O (BV_size _)<|cv cf161 hS O O O O O (sp_mooringref08_Double s _) fun w hS =>ala zr22 hS O O fun b5 w hb5 hS =>sa 0 ag22 hS O O O (BV_one _) O (BV_size _) (BV_size _) fun w hS =>wt ?_
 refine wc_seq<|rg<|asg O O O<|wt<|wc_block ?_
 refine wc_loop (σ := Nat) (fun k =>[(1, I ((i : Int))), (4, Ptr b4 0), (5, Ptr b5 0), (6, I ((k : Int)))])
  (fun k w => (k ≤ i + 1) ∧ St w0 [] [(b5, .cells (BV (dbN s k)) 22), (b4, .cells (BV (Vector.replicate 16 0)) 22), (b2, .cells (BV s) 22)] w) (fun k => i + 1 - k) 0 ⟨rfl, rfl, rfl, rfl, trivial⟩ ⟨by omega, hS⟩ ?_
 rintro k w ⟨hk, hS⟩
 refine wc_seq<|rg<|mv O O O<|mv O O O<|leq O O O O<|wt ?_
 refine wc_if O (fun hc1 =>?_) (fun hc1 =>?_)
 ·try simp only [SB] at hc1
  refine wc_skip<|wt<|wc_seq<|wc_block<|wc_region<|la 0 ag22 hS O O O O (BV_size _)<|cv cf161 hS O O O O O (sp_mooringref08_Double ((dbN s k)) _) fun w hS =>sa 0 ag22 hS O O O (BV_one _) O (BV_size _) (BV_size _) fun w hS =>q_block_norm<|wt<|wc_region<|mv O O O ?_
  refine addi (by omega) (by omega) O O O O<|asg O O O ?_
  refine again_q (k + 1) ⟨O, O, O, lkI O (by first | omega | rfl), trivial⟩ ⟨by omega, hS⟩ (by omega)
 ·try simp only [SB] at hc1
  refine wc_exit<|q_then_exit<|q_then_exit<|q_block_hit<|wt<|rg<|la 0 ag22 hS O O O O (BV_size _)<|sa 1 ag22 hS O O O (BV_one _) O (BV_size _) (BV_size _) fun w hS =>wt<|wc_ret<|fin1 (v := .agg (BV (dbN s k))) O ⟨_, O, lv_a ag22 (hS.get 1 O) (BV_size _)⟩ ?_
  refine ⟨?_, hS.drop⟩
  have hk4 : k = i + 1 := by omega
  rw [hk4]
theorem sp_mooringref09_For (key : V8 16) (q : Nat) (s : V8 16) (x : UInt64) (w0 : World) (hs : s = star key) (hx : x = toU64 ((q : Nat) : Int)) (h0 : 0 < q) (h256 : q < 256) : Calls Tryz.prog 156 #[.agg (BV s), U64 x] w0 (Ret w0 (.agg (BV (forN key (toU64 ((q : Nat) : Int)))))) := by
 refine enter (args := [.agg (BV s), U64 x]) Tryz.func156 O O<|startw fun w hS =>?_
 have hz : zerosN x ≤ 64 := by rw [hx, zr_ctz' q h0 h256]; exact Nat.le_of_lt (ctz_lt _ (toU64_ne q h0 (by omega)))
 refine rg<|bxa hS O O O fun b2 w hb2 hS =>ala zr22 hS O O fun b4 w hb4 hS =>wt<|rd mo 4 (fun w =>St w0 [] [(b4, .cells (BV (Vector.replicate 16 0)) 22), (b2, .cells (BV s) 22)] w)<|have hS := hS.drew; jx hS fun jj =>dx 0 O (by kernel_rfl) (fun w hS =>la 1 ag22 hS O O O O (BV_size _) rr) jj<|dx 1 O (by kernel_rfl) (fun w hS =>mv O O O rr) jj ?_
 refine dl 2 O (by kernel_rfl)<|cv cf182 hS O O O O O (sp_mooringref01_Zeros x _) fun w hS =>lx hS fun jj =>?_
 refine dl 3 O (by kernel_rfl)<|cv cf181 hS O O O O O (sp_mooringref09_At s ((zerosN x)) _ _ (by omega) (by omega)) fun w hS =>lx hS fun jj =>?_
 refine dl 4 O (by kernel_rfl)<|sa 0 ag22 hS O O O (BV_one _) O (BV_size _) (BV_size _) fun w hS =>ly O<|de (by kernel_rfl)<|wt<|wc_ret<|fin1 (v := .agg (BV (dbN s ((zerosN x) + 1)))) O ⟨_, O, lv_a ag22 (hS.get 0 O) (BV_size _)⟩ ?_
 refine ⟨?_, hS.drop⟩
 subst hs hx
 exact congrArg (fun v => Ending.returned (Value.agg (BV v))) (forR_eq key q h0 h256)
theorem sp_mooringref08_Shift (b : V8 24) (n : Nat) (n_ : Int) (w0 : World) (hn_ : n_ = (n : Int)) (hn : n < 64) : Calls Tryz.prog 177 #[.agg (BV b), I n_] w0 (Ret w0 (.agg (BV (shiftV b n)))) := by
 subst hn_
 refine enter (args := [.agg (BV b), I (n : Int)]) Tryz.func177 O O<|startw fun w hS =>rg<|bxa hS O O O fun b2 w hb2 hS =>ala zr22 hS O O fun b4 w hb4 hS =>wt<|rg<|a_all un255 ⟨_, sz5⟩ O O O<|cs cf191 hS O O O O O (sp_mooringref08_Bits ((some ⟨b2, 0, none⟩)) 24 24 b.toList _ Vector.length_toList (by omega) (Cel.bv (hS.get 1 O))) ?_
 rintro _ X7 w ⟨a7, c7, rfl, hO7⟩ hS
 have hS := St.tailin (X := X7) hS [(b4, .cells (BV (Vector.replicate 16 0)) 22), (b2, .cells (BV b) 255)] [] rfl
 have hle7 := hO7.le
 refine asg O O O<|wt<|rg<|mv O O O<|mv O O O<|mv O O O<|addi (by omega) (by omega) O O O O<|s_lh n (n + 128) un274 sz3 O O O O O (by omega) (by omega) (by omega) (by omega)<|cv cf192 hS O O O O O (sp_mooringref08_Of ((sla a7 n c7)) (((n + 128) - n)) ((c7 - n)) ((((biL b.toList 24).take (n + 128)).drop n)) _ (by first | rfl | omega | (simp; omega) | (simp; done)) (by omega) (((hO7.cel hS (fun p hp =>by simp [hp])).takei (n + 128)).dropi (lo := n) (cap := c7) (by first | omega | (simp; omega) | simp)) (by omega)) fun w hS =>sa 0 ag22 hS O O O (BV_one _) O (BV_size _) (BV_size _) fun w hS =>wt<|wc_ret ?_
 refine fin1 (v := .agg (BV (ofB (((biL b.toList 24).take (n + 128)).drop n)))) O ⟨_, O, lv_a ag22 (hS.get 0 O) (BV_size _)⟩ ?_
 refine ⟨?_, hS.drop⟩
 rw [← shiftR_eq b n hn]; rfl
theorem sp_mooringref10_Bottom (nonce : V8 12) (w0 : World) : Calls Tryz.prog 180 #[.agg (BV nonce)] w0 (Ret w0 (I ((botN nonce : Nat) : Int))) := by
 refine enter (args := [.agg (BV nonce)]) Tryz.func180 O O<|startw fun w hS =>rg<|bxa hS O O O fun b1 w hb1 hS =>asg O O O<|wt<|rg<|ian 11 11 un173 sz5 O O O O (by omega) (by omega) (by omega)<|lo 0 sc5 hS O O O O (BV_get _ 11 (by omega))<|cvi un3 ⟨_, un5⟩ (by have := (gv nonce 11).toNat_lt; omega) (by have := (gv nonce 11).toNat_lt; omega) O O O<|remi (by omega) (by omega) O O O O<|asg O O O ?_
 refine wt<|wc_ret<|fin1 (v := I (((gv nonce 11).toNat : Int) % 64)) O O ?_
 refine ⟨?_, hS.drop⟩
 rw [← bot_eq]; rfl
theorem sp_mooringref10_Top (key : V8 16) (nonce : V8 12) (w0 : World) : Calls Tryz.prog 179 #[.agg (BV (expand key) ++ BV sboxV), .agg (BV nonce)] w0 (Ret w0 (.agg (BV (topV key nonce)))) := by
 refine enter (args := [.agg (BV (expand key) ++ BV sboxV), .agg (BV nonce)]) Tryz.func179 O O<|startw fun w hS =>rg<|bxa hS O O O fun b2 w hb2 hS =>bxa hS O O O fun b3 w hb3 hS =>ala zr22 hS O O fun b4 w hb4 hS =>wt<|rg<|ala zr22 hS O O fun b5 w hb5 hS =>wt<|rg<|ian 3 3 un22 sz5 O O O O (by omega) (by omega) (by omega) ?_
 refine st 0 sz5 hS O O O O O O (by rw [BV_size]; omega) (BV_set _ _ (1 : UInt8)) fun w hS =>wt<|wc_seq<|rg<|asg O O O<|wt<|wc_block ?_
 refine wc_loop (σ := Nat) (fun k =>[(2, Ptr b2 0), (3, Ptr b3 0), (4, Ptr b4 0), (5, Ptr b5 0), (6, I ((k : Int)))])
  (fun k w => (k ≤ 12) ∧ St w0 [] [(b5, .cells (BV (topS nonce k)) 22), (b4, .cells (BV (Vector.replicate 16 0)) 22), (b3, .cells (BV nonce) 173), (b2, .cells (BV (expand key) ++ BV sboxV) 45)] w) (fun k => 12 - k) 0 ⟨rfl, rfl, rfl, rfl, rfl, trivial⟩ ⟨by omega, hS⟩ ?_
 rintro k w ⟨hk, hS⟩
 refine wc_seq<|rg<|mv O O O<|lss O O O O<|wt ?_
 refine wc_if O (fun hc1 =>?_) (fun hc1 =>?_)
 ·try simp only [SB] at hc1
  refine wc_skip<|wt<|wc_seq<|wc_block<|wc_region<|mv O O O<|addi (by omega) (by omega) O O O O<|mv O O O<|ian k k un173 sz5 O O O O (by omega) (by omega) (by omega)<|lo 2 sc5 hS O O O O (BV_get _ k (by omega))<|ian (4 + k) ((4 + k)) un22 sz5 O O O O (by omega) (by omega) (by omega)<|st 0 sz5 hS O O O O O O (by rw [BV_size]; omega) (BV_set _ _ (gv nonce k : UInt8)) fun w hS =>?_
  refine q_block_norm<|wt<|wc_region<|mv O O O<|addi (by omega) (by omega) O O O O<|asg O O O ?_
  refine again_q (k + 1) ⟨O, O, O, O, lkI O (by first | omega | rfl), trivial⟩ ⟨by omega, hS⟩ (by omega)
 ·try simp only [SB] at hc1
  have hk4 : k = 12 := by omega
  rw [hk4] at hS
  refine wc_exit<|q_then_exit<|q_then_exit<|q_block_hit<|wt<|rg<|ian 15 15 un22 sz5 O O O O (by omega) (by omega) (by omega)<|lo 0 sc5 hS O O O O (BV_get _ 15 (by omega))<|ian 15 15 un22 sz5 O O O O (by omega) (by omega) (by omega)<|lo 0 sc5 hS O O O O (BV_get _ 15 (by omega))<|rem8 (q := (64 : UInt8)) (by decide) O O O O<|sub8 O O O O ?_
  refine ian 15 15 un22 sz5 O O O O (by omega) (by omega) (by omega)<|st 0 sz5 hS O O O O O O (by rw [BV_size]; omega) (BV_set _ _ ((gv (topS nonce 12) 15) - ((gv (topS nonce 12) 15) % 64) : UInt8)) fun w hS =>wt<|rg<|la 3 ag45 hS O O O O (cat_size (a := 176) (b := 256) (BV_size _) (BV_size _))<|la 0 ag22 hS O O O O (BV_size _)<|cv cf159 hS O O O O O (sp_mooringref06_Encrypt key (((topS nonce 12).setIfInBounds 15 ((gv (topS nonce 12) 15) - ((gv (topS nonce 12) 15) % 64)))) _) fun w hS =>sa 1 ag22 hS O O O (BV_one _) O (BV_size _) (BV_size _) fun w hS =>wt<|wc_ret<|fin1 (v := .agg (BV (enc key ((topS nonce 12).setIfInBounds 15 ((gv (topS nonce 12) 15) - ((gv (topS nonce 12) 15) % 64)))))) O ⟨_, O, lv_a ag22 (hS.get 1 O) (BV_size _)⟩ ?_
  refine ⟨?_, hS.drop⟩
  rw [top_eq]; rfl
theorem sp_mooringref10_Stretch (b : V8 16) (w0 : World) : Calls Tryz.prog 178 #[.agg (BV b)] w0 (Ret w0 (.agg (BV (strL b 8)))) := by
 refine enter (args := [.agg (BV b)]) Tryz.func178 O O<|startw fun w hS =>rg<|bxa hS O O O fun b1 w hb1 hS =>ala zr255 hS O O fun b2 w hb2 hS =>wt<|rg<|ala zr255 hS O O fun b3 w hb3 hS =>wt<|wc_seq<|rg<|asg O O O ?_
 refine wt<|wc_block ?_
 refine wc_loop (σ := Nat) (fun k =>[(1, Ptr b1 0), (2, Ptr b2 0), (3, Ptr b3 0), (4, I ((k : Int)))])
  (fun k w => (k ≤ 24) ∧ St w0 [] [(b3, .cells (BV (fill8 24 (strf b) (Vector.replicate 24 0) k)) 255), (b2, .cells (BV (Vector.replicate 24 0)) 255), (b1, .cells (BV b) 22)] w) (fun k => 24 - k) 0 ⟨rfl, rfl, rfl, rfl, trivial⟩ ⟨by omega, (by simp only [Nat.zero_mul, Nat.add_zero, fill8_0, fill32_0]; exact hS)⟩ ?_
 rintro k w ⟨hk, hS⟩
 refine wc_seq<|rg<|mv O O O<|lss O O O O<|wt ?_
 refine wc_if O (fun hc1 =>?_) (fun hc1 =>?_)
 ·try simp only [SB] at hc1
  refine wc_skip<|wt<|wc_seq<|wc_block<|rg<|mv O O O<|lss O O O O<|wt ?_
  refine wc_if O (fun hc2 =>?_) (fun hc2 =>?_)
  ·try simp only [SB] at hc2
   have h16 : k < 16 := by omega
   refine wc_region<|mv O O O<|mv O O O<|ian k k un22 sz5 O O O O (by omega) (by omega) (by omega)<|lo 2 sc5 hS O O O O (BV_get _ k (by omega))<|ian k k un255 sz5 O O O O (by omega) (by omega) (by omega)<|st (cs' := BV (fill8 24 (strf b) (Vector.replicate 24 0) (k + 1))) 0 sz5 hS O O O O O O (by rw [BV_size]; omega) (by rw [BV_set, show gv b k = strf b k from (if_pos h16).symm]; exact congrArg BV (fill8_succ (strf b) _ k)) fun w hS =>q_block_norm<|wt<|wc_region<|mv O O O<|addi (by omega) (by omega) O O O O ?_
   refine asg O O O ?_
   refine again_q (k + 1) ⟨O, O, O, lkI O (by first | omega | rfl), trivial⟩ ⟨by omega, hS⟩ (by omega)
  ·try simp only [SB] at hc2
   have h16 : ¬ k < 16 := by omega
   refine wc_draw mo 10 (fun w =>St w0 [] [(b2, .cells (BV (Vector.replicate 24 0)) 255), (b1, .cells (BV b) 22)] w)<|have hS := hS.drew; jx (hS.sl 3 6) fun jj =>dx 0 O (by kernel_rfl) (fun w hS =>mv O O O rr) jj<|dx 1 O (by kernel_rfl) (fun w hS =>mv O O O rr) jj<|dx 2 O (by kernel_rfl) (fun w hS =>subi (by omega) (by omega) O O O O rr) jj<|dx 3 O (by kernel_rfl) (fun w hS =>ian (k - 16) ((k - 16)) un22 sz5 O O O O (by omega) (by omega) (by omega) rr) jj<|dx 4 O (by kernel_rfl) (fun w hS =>lo 1 sc5 hS O O O O (BV_get _ (k - 16) (by omega)) rr) jj<|dx 5 O (by kernel_rfl) (fun w hS =>mv O O O rr) jj<|dx 6 O (by kernel_rfl) (fun w hS =>subi (by omega) (by omega) O O O O rr) jj<|dx 7 O (by kernel_rfl) (fun w hS =>ian (k - 15) ((k - 15)) un22 sz5 O O O O (by omega) (by omega) (by omega) rr) jj<|dx 8 O (by kernel_rfl) (fun w hS =>lo 1 sc5 hS O O O O (BV_get _ (k - 15) (by omega)) rr) jj<|dx 9 O (by kernel_rfl) (fun w hS =>xor8 O O O O rr) jj ?_
   refine dl 10 O (by kernel_rfl)<|ian k k un255 sz5 O O O O (by omega) (by omega) (by omega)<|ly O ?_
   refine dl 11 O (by kernel_rfl)<|st (cs' := BV (fill8 24 (strf b) (Vector.replicate 24 0) (k + 1))) 0 sz5 hS O O O O O O (by rw [BV_size]; omega) (by rw [BV_set, show gv b (k - 16) ^^^ gv b (k - 15) = strf b k from (if_neg h16).symm]; exact congrArg BV (fill8_succ (strf b) _ k)) fun w hS =>ly O<|de (by kernel_rfl)<|q_block_norm<|wt<|wc_region<|mv O O O<|addi (by omega) (by omega) O O O O<|asg O O O ?_
   refine again_q (k + 1) ⟨O, O, O, lkI O (by first | omega | rfl), trivial⟩ ⟨by omega, hS⟩ (by omega)
 ·try simp only [SB] at hc1
  refine wc_exit<|q_then_exit<|q_then_exit<|q_block_hit<|wt<|rg<|la 0 ag255 hS O O O O (BV_size _)<|sa 1 ag255 hS O O O (BV_one _) O (BV_size _) (BV_size _) fun w hS =>wt<|wc_ret<|fin1 (v := .agg (BV (fill8 24 (strf b) (Vector.replicate 24 0) k))) O ⟨_, O, lv_a ag255 (hS.get 1 O) (BV_size _)⟩ ?_
  refine ⟨?_, hS.drop⟩
  have hk4 : k = 24 := by omega
  rw [hk4, fill8_n, ← str_eq]
theorem sp_mooringref10_Start (key : V8 16) (nonce : V8 12) (w0 : World) : Calls Tryz.prog 154 #[.agg (BV (expand key) ++ BV sboxV), .agg (BV nonce)] w0 (Ret w0 (.agg (BV (startV key nonce)))) := by
 refine enter (args := [.agg (BV (expand key) ++ BV sboxV), .agg (BV nonce)]) Tryz.func154 O O<|startw fun w hS =>?_
 have hb := botN_lt nonce
 refine rg<|bxa hS O O O fun b2 w hb2 hS =>bxa hS O O O fun b3 w hb3 hS =>ala zr22 hS O O fun b4 w hb4 hS =>wt<|rd mo 7 (fun w =>St w0 [] [(b4, .cells (BV (Vector.replicate 16 0)) 22), (b3, .cells (BV nonce) 173), (b2, .cells (BV (expand key) ++ BV sboxV) 45)] w)<|have hS := hS.drew; jx hS fun jj =>dx 0 O (by kernel_rfl) (fun w hS =>la 2 ag45 hS O O O O (cat_size (a := 176) (b := 256) (BV_size _) (BV_size _)) rr) jj<|dx 1 O (by kernel_rfl) (fun w hS =>la 1 ag173 hS O O O O (BV_size _) rr) jj<|dx 4 O (by kernel_rfl) (fun w hS =>la 1 ag173 hS O O O O (BV_size _) rr) jj ?_
 refine dl 2 O (by kernel_rfl)<|cv cf179 hS O O O O O (sp_mooringref10_Top key nonce _) fun w hS =>lx hS fun jj =>?_
 refine dl 3 O (by kernel_rfl)<|cv cf178 hS O O O O O (sp_mooringref10_Stretch ((topV key nonce)) _) fun w hS =>lx hS fun jj =>?_
 refine dl 5 O (by kernel_rfl)<|cv cf180 hS O O O O O (sp_mooringref10_Bottom nonce _) fun w hS =>lx hS fun jj =>?_
 refine dl 6 O (by kernel_rfl)<|cv cf177 hS O O O O O (sp_mooringref08_Shift ((strL (topV key nonce) 8)) ((botN nonce)) _ _ (by omega) (by omega)) fun w hS =>lx hS fun jj =>?_
 refine dl 7 O (by kernel_rfl)<|sa 0 ag22 hS O O O (BV_one _) O (BV_size _) (BV_size _) fun w hS =>ly O<|de (by kernel_rfl)<|wt<|wc_ret<|fin1 (v := .agg (BV (shiftV (strL (topV key nonce) 8) (botN nonce)))) O ⟨_, O, lv_a ag22 (hS.get 0 O) (BV_size _)⟩ ?_
 exact ⟨rfl, hS.drop⟩
theorem sp_mooringref12_Crypt (key : V8 16) (nonce : V8 12) (a : Option Addr) (n cap : Nat) (bs : List UInt8) (w0 : World) (hn : bs.length = n) (hN : n ≤ 1000000) (hc : Cel w0 a (c8 bs)) (hcap : n ≤ cap) (h4 : n ≤ 4000) : Calls Tryz.prog 125 #[.agg (BV (expand key) ++ BV sboxV), .agg (BV nonce), .slice a n cap] w0 (RetS w0 (fun v X => ∃ a' c', v = .agg (#[.slice a' n c'] ++ (BV (cryC bs) ++ BV (cryO key nonce n))) ∧ Own 1 a' n c' (c8 (cryT key nonce bs)) X)) := by
 refine enter (args := [.agg (BV (expand key) ++ BV sboxV), .agg (BV nonce), .slice a n cap]) Tryz.func125 O O<|startw fun w hS =>rg<|bxa hS O O O fun b3 w hb3 hS =>bxa hS O O O fun b4 w hb4 hS =>ala zr217 hS O O fun b6 w hb6 hS =>wt<|rg<|la 2 ag45 hS O O O O (cat_size (a := 176) (b := 256) (BV_size _) (BV_size _))<|cv cf153 hS O O O O O (sp_mooringref09_Star key _) fun w hS =>ala zr22 hS O O fun b7 w hb7 hS =>sa 0 ag22 hS O O O (BV_one _) O (BV_size _) (BV_size _) fun w hS =>?_
 refine wt<|rg<|la 3 ag45 hS O O O O (cat_size (a := 176) (b := 256) (BV_size _) (BV_size _))<|la 2 ag173 hS O O O O (BV_size _)<|cv cf154 hS O O O O O (sp_mooringref10_Start key nonce _) fun w hS =>bd (cs := #[(.slice none 0 0)] ++ (BV (Vector.replicate 16 0) ++ BV (startV key nonce))) O O O ((bu217 _).trans (fill_w (off := 17) (size := 16) O (BV_size _) (le_sz (a := 33) (cat_size (a := 1) (b := 32) O (cat_size (a := 16) (b := 16) (BV_size _) (BV_size _))) (by omega)) (cat_pr (a := 1) (o' := 16) O (by omega) (ple2 (BV_size _) (cat_size (a := 16) (b := 16) (BV_size _) (BV_size _)) (by omega)) (cat_pr (a := 16) (o' := 0) (BV_size _) (by omega) (ple2 (BV_size _) (BV_size _) (by omega)) (put_all (BV_size _) (BV_size _))))<|O))<|ala zr217 hS O O fun b8 w hb8 hS =>sa 0 ag217 hS O O O (cat_one (by first | rfl | kernel_rfl | (simp [Value.oneCell'])) (cat_one (BV_one _) (BV_one _))) O (cat_size (a := 1) (b := 32) O (cat_size (a := 16) (b := 16) (BV_size _) (BV_size _))) (cat_size (a := 1) (b := 32) O (cat_size (a := 16) (b := 16) (BV_size _) (BV_size _))) fun w hS =>wt<|rg<|mv O O O<|lens un30 O O O ?_
 refine quoi (by omega) (by omega) (by omega) O O O O<|asg O O O<|wt<|wc_seq<|rg<|asg O O O<|wt<|wc_block ?_
 refine wc_loop (σ := (Nat × Option Addr × Nat × List (Nat × Obj))) (fun s =>[(2, .slice a n cap), (3, Ptr b3 0), (6, Ptr b6 0), (7, Ptr b7 0), (8, Ptr b8 0), (9, I (((n : Nat) : Int) / 16)), (10, I ((s.1 : Int)))])
  (fun s w => (s.1 ≤ n / 16 ∧ Own 1 s.2.1 (s.1 * 16) s.2.2.1 (c8 (crT key nonce bs s.1)) s.2.2.2) ∧ St w0 [] ([(b8, .cells (#[.slice s.2.1 (s.1 * 16) s.2.2.1] ++ (BV (crC bs s.1) ++ BV (crO key nonce s.1))) 217), (b7, .cells (BV (star key)) 22), (b6, .cells (#[(.slice none 0 0)] ++ (BV (Vector.replicate 16 0) ++ BV (Vector.replicate 16 0))) 217), (b4, .cells (BV nonce) 173), (b3, .cells (BV (expand key) ++ BV sboxV) 45)] ++ (s.2.2.2 ++ [])) w) (fun s => n / 16 - s.1) (0, none, 0, []) ⟨rfl, rfl, rfl, rfl, rfl, rfl, rfl, trivial⟩ ⟨⟨by omega, Own.nil 1⟩, (hS.napp)⟩ ?_
 rintro s w ⟨⟨hk, hO⟩, hS⟩
 refine wc_seq<|rg<|mv O O O<|mv O O O<|lss O O O O<|wt ?_
 refine wc_if O (fun hc1 =>?_) (fun hc1 =>?_)
 ·try simp only [SB] at hc1
  refine wc_skip<|wt<|wc_seq<|wc_block<|rg<|mv O O O<|mv O O O<|cv cf158 hS O O O O O (sp_mooringref08_Part a n cap bs s.1 _ _ (by omega) (by first | rfl | omega | (simp; omega) | (simp; done)) (by omega) (hc.st hS) (by omega) (by omega)) fun w hS =>ala zr22 hS O O fun b11 w hb11 hS =>sa 0 ag22 hS O O O (BV_one _) O (BV_size _) (BV_size _) fun w hS =>wt<|rd mo 8 (fun w =>St w0 [] ([(b11, .cells (BV (blk bs s.1)) 22), (b8, .cells (#[.slice s.2.1 (s.1 * 16) s.2.2.1] ++ (BV (crC bs s.1) ++ BV (crO key nonce s.1))) 217), (b7, .cells (BV (star key)) 22), (b6, .cells (#[(.slice none 0 0)] ++ (BV (Vector.replicate 16 0) ++ BV (Vector.replicate 16 0))) 217), (b4, .cells (BV nonce) 173), (b3, .cells (BV (expand key) ++ BV sboxV) 45)] ++ (s.2.2.2 ++ [])) w) ?_
  have hS := hS.drew
  refine jx hS fun jj =>dx 0 O (by kernel_rfl) (fun w hS =>fan 17 17 un217 O sz22 (by decide) O O O O (by omega) rr) jj<|dx 1 O (by kernel_rfl) (fun w hS =>lp (u := .agg (BV (crO key nonce s.1))) 1 ag22 hS O O O O (le_sz (a := 33) (cat_size (a := 1) (b := 32) O (cat_size (a := 16) (b := 16) (BV_size _) (BV_size _))) (by omega)) (cat_xr (a := 1) (o' := 16) O (by omega) (cat_xr (a := 16) (o' := 0) (BV_size _) (by omega) (ext_all (BV_size _)))) O rr) jj<|dx 2 O (by kernel_rfl) (fun w hS =>la 2 ag22 hS O O O O (BV_size _) rr) jj<|dx 3 O (by kernel_rfl) (fun w hS =>mv O O O rr) jj<|dx 4 O (by kernel_rfl) (fun w hS =>addi (by omega) (by omega) O O O O rr) jj<|dx 5 O (by kernel_rfl) (fun w hS =>cvu64 un24 ⟨_, un3⟩ O O O rr) jj ?_
  refine dl 6 O (by kernel_rfl)<|cv cf156 hS O O O O O (sp_mooringref09_For key (s.1 + 1) ((star key)) ((toU64 ((s.1 : Int) + 1))) _ O O (by omega) (by omega)) fun w hS =>lx hS fun jj =>?_
  refine dl 7 O (by kernel_rfl)<|cv (v := .agg (BV (crO key nonce (s.1 + 1)))) cf155 hS O O O O O (sp_mooringref08_Xor ((crO key nonce s.1)) ((forN key (toU64 ((s.1 + 1 : Nat) : Int)))) _) fun w hS =>lx hS fun jj =>?_
  refine dl 8 O (by kernel_rfl)<|fan 17 17 un217 O sz22 (by decide) O O O O (by omega)<|ly O ?_
  refine dl 9 O (by kernel_rfl)<|spp (cs' := #[.slice s.2.1 (s.1 * 16) s.2.2.1] ++ (BV (crC bs s.1) ++ BV (crO key nonce (s.1 + 1)))) 1 ag22 hS O O O (BV_one _) O (le_sz (a := 33) (cat_size (a := 1) (b := 32) O (cat_size (a := 16) (b := 16) (BV_size _) (BV_size _))) (by omega)) (BV_size _) (cat_pr (a := 1) (o' := 16) O (by omega) (ple2 (BV_size _) (cat_size (a := 16) (b := 16) (BV_size _) (BV_size _)) (by omega)) (cat_pr (a := 16) (o' := 0) (BV_size _) (by omega) (ple2 (BV_size _) (BV_size _) (by omega)) (put_all (BV_size _) (BV_size _)))) fun w hS =>ly O<|de (by kernel_rfl)<|wt ?_
  refine sqj (fun l w =>∃ (b12 : Nat), l = [(2, .slice a n cap), (3, Ptr b3 0), (6, Ptr b6 0), (7, Ptr b7 0), (8, Ptr b8 0), (9, I (((n : Nat) : Int) / 16)), (10, I ((s.1 : Int))), (11, Ptr b11 0), (12, Ptr b12 0)] ∧ St w0 [] ([(b12, .cells (BV (crB key nonce bs s.1)) 22), (b11, .cells (BV (blk bs s.1)) 22), (b8, .cells (#[.slice s.2.1 (s.1 * 16) s.2.2.1] ++ (BV (crC bs s.1) ++ BV (crO key nonce (s.1 + 1)))) 217), (b7, .cells (BV (star key)) 22), (b6, .cells (#[(.slice none 0 0)] ++ (BV (Vector.replicate 16 0) ++ BV (Vector.replicate 16 0))) 217), (b4, .cells (BV nonce) 173), (b3, .cells (BV (expand key) ++ BV sboxV) 45)] ++ (s.2.2.2 ++ [])) w) ?_ ?_
  ·refine wc_draw mo 10 (fun w =>St w0 [] ([(b11, .cells (BV (blk bs s.1)) 22), (b8, .cells (#[.slice s.2.1 (s.1 * 16) s.2.2.1] ++ (BV (crC bs s.1) ++ BV (crO key nonce (s.1 + 1)))) 217), (b7, .cells (BV (star key)) 22), (b6, .cells (#[(.slice none 0 0)] ++ (BV (Vector.replicate 16 0) ++ BV (Vector.replicate 16 0))) 217), (b4, .cells (BV nonce) 173), (b3, .cells (BV (expand key) ++ BV sboxV) 45)] ++ (s.2.2.2 ++ [])) w) ?_
   have hS := hS.drew
   refine jx hS fun jj =>dx 0 O (by kernel_rfl) (fun w hS =>la 5 ag45 hS O O O O (cat_size (a := 176) (b := 256) (BV_size _) (BV_size _)) rr) jj<|dx 1 O (by kernel_rfl) (fun w hS =>la 0 ag22 hS O O O O (BV_size _) rr) jj<|dx 2 O (by kernel_rfl) (fun w hS =>fan 17 17 un217 O sz22 (by decide) O O O O (by omega) rr) jj<|dx 3 O (by kernel_rfl) (fun w hS =>lp (u := .agg (BV (crO key nonce (s.1 + 1)))) 1 ag22 hS O O O O (le_sz (a := 33) (cat_size (a := 1) (b := 32) O (cat_size (a := 16) (b := 16) (BV_size _) (BV_size _))) (by omega)) (cat_xr (a := 1) (o' := 16) O (by omega) (cat_xr (a := 16) (o' := 0) (BV_size _) (by omega) (ext_all (BV_size _)))) O rr) jj<|dx 6 O (by kernel_rfl) (fun w hS =>fan 17 17 un217 O sz22 (by decide) O O O O (by omega) rr) jj<|dx 7 O (by kernel_rfl) (fun w hS =>lp (u := .agg (BV (crO key nonce (s.1 + 1)))) 1 ag22 hS O O O O (le_sz (a := 33) (cat_size (a := 1) (b := 32) O (cat_size (a := 16) (b := 16) (BV_size _) (BV_size _))) (by omega)) (cat_xr (a := 1) (o' := 16) O (by omega) (cat_xr (a := 16) (o' := 0) (BV_size _) (by omega) (ext_all (BV_size _)))) O rr) jj ?_
   refine dl2 4 9 O O (by kernel_rfl) ?_ ?_
   ·refine cv cf155 hS O O O O O (sp_mooringref08_Xor ((blk bs s.1)) ((crO key nonce (s.1 + 1))) _) fun w hS =>lx hS fun jj =>?_
    refine dl2 5 9 O O (by kernel_rfl) ?_ ?_
    ·refine cv cf159 hS O O O O O (sp_mooringref06_Encrypt key ((xorV (blk bs s.1) (crO key nonce (s.1 + 1)))) _) fun w hS =>lx hS fun jj =>?_
     refine dl2 8 9 O O (by kernel_rfl) ?_ ?_
     ·refine cv (v := .agg (BV (crB key nonce bs s.1))) cf155 hS O O O O O (sp_mooringref08_Xor2 ((enc key (xorV (blk bs s.1) (crO key nonce (s.1 + 1))))) ((crO key nonce (s.1 + 1))) _) fun w hS =>lx hS fun jj =>?_
      refine dl 9 O (by kernel_rfl)<|ala zr22 hS O O fun b12 w hb12 hS =>lx hS.tl fun jj =>?_
      refine dl 10 O (by kernel_rfl)<|sa 0 ag22 hS O O O (BV_one _) O (BV_size _) (BV_size _) fun w hS =>ly O<|de (by kernel_rfl) ?_
      exact mmq ⟨b12, rfl, hS⟩ ⟨rfl, rfl, rfl, rfl, rfl, rfl, rfl, rfl, rfl, trivial⟩
     ·refine ala zr22 hS O O fun b12 w hb12 hS =>lx hS.tl fun jj =>?_
      refine dl 8 O (by kernel_rfl)<|cv (v := .agg (BV (crB key nonce bs s.1))) cf155 hS O O O O O (sp_mooringref08_Xor2 ((enc key (xorV (blk bs s.1) (crO key nonce (s.1 + 1))))) ((crO key nonce (s.1 + 1))) _) fun w hS =>lx hS.tl fun jj =>?_
      refine dl 10 O (by kernel_rfl)<|sa 0 ag22 hS O O O (BV_one _) O (BV_size _) (BV_size _) fun w hS =>ly O<|de (by kernel_rfl) ?_
      exact mmq ⟨b12, rfl, hS⟩ ⟨rfl, rfl, rfl, rfl, rfl, rfl, rfl, rfl, rfl, trivial⟩
    ·refine ala zr22 hS O O fun b12 w hb12 hS =>lx hS.tl fun jj =>?_
     refine dl 5 O (by kernel_rfl)<|cv cf159 hS O O O O O (sp_mooringref06_Encrypt key ((xorV (blk bs s.1) (crO key nonce (s.1 + 1)))) _) fun w hS =>lx hS.tl fun jj =>?_
     refine dl 8 O (by kernel_rfl)<|cv (v := .agg (BV (crB key nonce bs s.1))) cf155 hS O O O O O (sp_mooringref08_Xor2 ((enc key (xorV (blk bs s.1) (crO key nonce (s.1 + 1))))) ((crO key nonce (s.1 + 1))) _) fun w hS =>lx hS.tl fun jj =>?_
     refine dl 10 O (by kernel_rfl)<|sa 0 ag22 hS O O O (BV_one _) O (BV_size _) (BV_size _) fun w hS =>ly O<|de (by kernel_rfl) ?_
     exact mmq ⟨b12, rfl, hS⟩ ⟨rfl, rfl, rfl, rfl, rfl, rfl, rfl, rfl, rfl, trivial⟩
   ·refine ala zr22 hS O O fun b12 w hb12 hS =>lx hS.tl fun jj =>?_
    refine dl 4 O (by kernel_rfl)<|cv cf155 hS O O O O O (sp_mooringref08_Xor ((blk bs s.1)) ((crO key nonce (s.1 + 1))) _) fun w hS =>lx hS.tl fun jj =>?_
    refine dl 5 O (by kernel_rfl)<|cv cf159 hS O O O O O (sp_mooringref06_Encrypt key ((xorV (blk bs s.1) (crO key nonce (s.1 + 1)))) _) fun w hS =>lx hS.tl fun jj =>?_
    refine dl 8 O (by kernel_rfl)<|cv (v := .agg (BV (crB key nonce bs s.1))) cf155 hS O O O O O (sp_mooringref08_Xor2 ((enc key (xorV (blk bs s.1) (crO key nonce (s.1 + 1))))) ((crO key nonce (s.1 + 1))) _) fun w hS =>lx hS.tl fun jj =>?_
    refine dl 10 O (by kernel_rfl)<|sa 0 ag22 hS O O O (BV_one _) O (BV_size _) (BV_size _) fun w hS =>ly O<|de (by kernel_rfl) ?_
    exact mmq ⟨b12, rfl, hS⟩ ⟨rfl, rfl, rfl, rfl, rfl, rfl, rfl, rfl, rfl, trivial⟩
  ·rintro _ w ⟨b12, rfl, hS⟩
   refine rd mo 4 (fun w =>St w0 [] [(b12, .cells (BV (crB key nonce bs s.1)) 22), (b11, .cells (BV (blk bs s.1)) 22), (b8, .cells (#[.slice s.2.1 (s.1 * 16) s.2.2.1] ++ (BV (crC bs s.1) ++ BV (crO key nonce (s.1 + 1)))) 217), (b7, .cells (BV (star key)) 22), (b6, .cells (#[(.slice none 0 0)] ++ (BV (Vector.replicate 16 0) ++ BV (Vector.replicate 16 0))) 217), (b4, .cells (BV nonce) 173), (b3, .cells (BV (expand key) ++ BV sboxV) 45)] w) ?_
   have hS := hS.drew
   refine jx (hS.sl 7 127) fun jj =>dx 0 O (by kernel_rfl) (fun w hS =>fan 0 0 un217 O sz30 (by decide) O O O O (by omega) rr) jj<|dx 1 O (by kernel_rfl) (fun w hS =>lo 2 sc30 hS O O O O (cat_l (a := 1) O (by omega) O) rr) jj<|dx 2 O (by kernel_rfl) (fun w hS =>a_all un22 ⟨_, sz5⟩ O O O rr) jj ?_
   refine dl 3 O (by kernel_rfl)<|app (A := [(b12, .cells (BV (crB key nonce bs s.1)) 22), (b11, .cells (BV (blk bs s.1)) 22), (b8, .cells (#[.slice s.2.1 (s.1 * 16) s.2.2.1] ++ (BV (crC bs s.1) ++ BV (crO key nonce (s.1 + 1)))) 217), (b7, .cells (BV (star key)) 22), (b6, .cells (#[(.slice none 0 0)] ++ (BV (Vector.replicate 16 0) ++ BV (Vector.replicate 16 0))) 217), (b4, .cells (BV nonce) 173), (b3, .cells (BV (expand key) ++ BV sboxV) 45)]) (R := []) sl30 hO hS O O O O (src8 un30 _ (Cel.bv (hS.get 0 O)) Vector.length_toList) (by omega) (by omega) fun a53 c53 X53 w hO53 hS =>?_
   try simp only [c8_app] at hO53
   refine lx (hS.sl 7 127) fun jj =>?_
   refine dl 4 O (by kernel_rfl)<|fan 0 0 un217 O sz30 (by decide) O O O O (by omega)<|ly O ?_
   refine dl 5 O (by kernel_rfl)<|st 2 sz30 hS O O O O O O (lt_sz (a := 33) (cat_size (a := 1) (b := 32) O (cat_size (a := 16) (b := 16) (BV_size _) (BV_size _))) (by omega)) (cat_sl (a := 1) O (by omega) O) fun w hS =>ly O<|de (by kernel_rfl)<|wt<|wc_region<|fan 1 1 un217 O sz22 (by decide) O O O O (by omega)<|lp (u := .agg (BV (crC bs s.1))) 2 ag22 hS O O O O (le_sz (a := 33) (cat_size (a := 1) (b := 32) O (cat_size (a := 16) (b := 16) (BV_size _) (BV_size _))) (by omega)) (cat_xr (a := 1) (o' := 0) O (by omega) (cat_xl (a := 16) (BV_size _) (by omega) (ext_all (BV_size _)))) O<|la 1 ag22 hS O O O O (BV_size _)<|cv (v := .agg (BV (crC bs (s.1 + 1)))) cf155 hS O O O O O (sp_mooringref08_Xor ((crC bs s.1)) ((blk bs s.1)) _) fun w hS =>fan 1 1 un217 O sz22 (by decide) O O O O (by omega)<|spp (cs' := #[.slice a53 ((s.1 * 16) + 16) c53] ++ (BV (crC bs (s.1 + 1)) ++ BV (crO key nonce (s.1 + 1)))) 2 ag22 hS O O O (BV_one _) O (le_sz (a := 33) (cat_size (a := 1) (b := 32) O (cat_size (a := 16) (b := 16) (BV_size _) (BV_size _))) (by omega)) (BV_size _) (cat_pr (a := 1) (o' := 0) O (by omega) (ple2 (BV_size _) (cat_size (a := 16) (b := 16) (BV_size _) (BV_size _)) (by omega)) (cat_pl (a := 16) (BV_size _) (ple (BV_size _) (by omega)) (put_all (BV_size _) (BV_size _)))) fun w hS =>?_
   refine q_block_norm<|wt<|wc_region<|mv O O O<|addi (by omega) (by omega) O O O O<|asg O O O ?_
   have e16 : s.1 * 16 + 16 = (s.1 + 1) * 16 := by omega
   rw [e16] at hS hO53
   refine again_q (s.1 + 1, a53, c53, X53) ⟨O, O, O, O, O, O, lkI O (by first | omega | rfl), trivial⟩ ⟨⟨by omega, hO53⟩, hS.tl.tl⟩ (by omega)
 ·try simp only [SB] at hc1
  have hk4 : s.1 = n / 16 := by omega
  rw [hk4] at hS hO
  refine wc_exit<|q_then_exit<|q_then_exit<|q_block_hit<|wt<|wc_seq<|rg<|mv O O O<|lens un30 O O O<|remi (by omega) (by omega) O O O O<|gtr O O O O<|wt ?_
  refine wc_if O (fun hc2 =>?_) (fun hc2 =>?_)
  ·try simp only [SB] at hc2
   have h16 : 0 < n % 16 := by omega
   refine rg<|fan 17 17 un217 O sz22 (by decide) O O O O (by omega)<|lp (u := .agg (BV (crO key nonce (n / 16)))) 0 ag22 hS O O O O (le_sz (a := 33) (cat_size (a := 1) (b := 32) O (cat_size (a := 16) (b := 16) (BV_size _) (BV_size _))) (by omega)) (cat_xr (a := 1) (o' := 16) O (by omega) (cat_xr (a := 16) (o' := 0) (BV_size _) (by omega) (ext_all (BV_size _)))) O<|la 1 ag22 hS O O O O (BV_size _)<|cv cf155 hS O O O O O (sp_mooringref08_Xor ((crO key nonce (n / 16))) ((star key)) _) fun w hS =>fan 17 17 un217 O sz22 (by decide) O O O O (by omega)<|spp (cs' := #[.slice s.2.1 (n / 16 * 16) s.2.2.1] ++ (BV (crC bs (n / 16)) ++ BV (xorV (crO key nonce (n / 16)) (star key)))) 0 ag22 hS O O O (BV_one _) O (le_sz (a := 33) (cat_size (a := 1) (b := 32) O (cat_size (a := 16) (b := 16) (BV_size _) (BV_size _))) (by omega)) (BV_size _) (cat_pr (a := 1) (o' := 16) O (by omega) (ple2 (BV_size _) (cat_size (a := 16) (b := 16) (BV_size _) (BV_size _)) (by omega)) (cat_pr (a := 16) (o' := 0) (BV_size _) (by omega) (ple2 (BV_size _) (BV_size _) (by omega)) (put_all (BV_size _) (BV_size _)))) fun w hS =>wt<|rg<|la 4 ag45 hS O O O O (cat_size (a := 176) (b := 256) (BV_size _) (BV_size _))<|fan 17 17 un217 O sz22 (by decide) O O O O (by omega)<|lp (u := .agg (BV (xorV (crO key nonce (n / 16)) (star key)))) 0 ag22 hS O O O O (le_sz (a := 33) (cat_size (a := 1) (b := 32) O (cat_size (a := 16) (b := 16) (BV_size _) (BV_size _))) (by omega)) (cat_xr (a := 1) (o' := 16) O (by omega) (cat_xr (a := 16) (o' := 0) (BV_size _) (by omega) (ext_all (BV_size _)))) O ?_
   refine cv cf159 hS O O O O O (sp_mooringref06_Encrypt key ((xorV (crO key nonce (n / 16)) (star key))) _) fun w hS =>ala zr22 hS O O fun b13 w hb13 hS =>sa 0 ag22 hS O O O (BV_one _) O (BV_size _) (BV_size _) fun w hS =>wt<|wc_seq<|rg<|mv O O O<|muli (by omega) (by omega) O O O O<|asg O O O<|wt<|wc_block ?_
   refine wc_loop (σ := (Nat × Option Addr × Nat × List (Nat × Obj))) (fun u =>[(2, .slice a n cap), (6, Ptr b6 0), (8, Ptr b8 0), (9, I (((n : Nat) : Int) / 16)), (13, Ptr b13 0), (14, I (((16 * (n / 16) + u.1 : Nat) : Int)))])
    (fun u w => (16 * (n / 16) + u.1 ≤ n ∧ Own 1 u.2.1 (n / 16 * 16 + u.1) u.2.2.1 (c8 (crT key nonce bs (n / 16) ++ tlL bs (16 * (n / 16)) (enc key (xorV (crO key nonce (n / 16)) (star key))) u.1)) u.2.2.2) ∧ St w0 [] ([(b13, .cells (BV (enc key (xorV (crO key nonce (n / 16)) (star key)))) 22), (b8, .cells (#[.slice u.2.1 (n / 16 * 16 + u.1) u.2.2.1] ++ (BV (crC bs (n / 16)) ++ BV (xorV (crO key nonce (n / 16)) (star key)))) 217), (b7, .cells (BV (star key)) 22), (b6, .cells (#[(.slice none 0 0)] ++ (BV (Vector.replicate 16 0) ++ BV (Vector.replicate 16 0))) 217), (b4, .cells (BV nonce) 173), (b3, .cells (BV (expand key) ++ BV sboxV) 45)] ++ (u.2.2.2 ++ [])) w) (fun u => n - (16 * (n / 16) + u.1)) (0, s.2.1, s.2.2.1, s.2.2.2) ⟨rfl, rfl, rfl, rfl, rfl, rfl, trivial⟩ ⟨⟨by omega, by simpa [tlL] using hO⟩, hS⟩ ?_
   rintro u w ⟨⟨hm, hO⟩, hS⟩
   refine wc_seq<|rg<|mv O O O<|mv O O O<|lens un30 O O O<|lss O O O O<|wt ?_
   refine wc_if O (fun hc3 =>?_) (fun hc3 =>?_)
   ·try simp only [SB] at hc3
    refine wc_skip<|wt<|wc_seq<|wc_block<|wc_draw mo 15 (fun w =>St w0 [] [(b13, .cells (BV (enc key (xorV (crO key nonce (n / 16)) (star key)))) 22), (b8, .cells (#[.slice u.2.1 (n / 16 * 16 + u.1) u.2.2.1] ++ (BV (crC bs (n / 16)) ++ BV (xorV (crO key nonce (n / 16)) (star key)))) 217), (b7, .cells (BV (star key)) 22), (b6, .cells (#[(.slice none 0 0)] ++ (BV (Vector.replicate 16 0) ++ BV (Vector.replicate 16 0))) 217), (b4, .cells (BV nonce) 173), (b3, .cells (BV (expand key) ++ BV sboxV) 45)] w) ?_
    have hS := hS.drew
    refine jx (hS.sl 6 63) fun jj =>dx 0 O (by kernel_rfl) (fun w hS =>fan 0 0 un217 O sz30 (by decide) O O O O (by omega) rr) jj<|dx 1 O (by kernel_rfl) (fun w hS =>lo 1 sc30 hS O O O O (cat_l (a := 1) O (by omega) O) rr) jj<|dx 2 O (by kernel_rfl) (fun w hS =>mv O O O rr) jj<|dx 3 O (by kernel_rfl) (fun w hS =>mv O O O rr) jj<|dx 4 O (by kernel_rfl) (fun w hS =>slx (16 * (n / 16) + u.1) un30 sz5 O O O O (by omega) (by omega) ((hc.st hS).some8 (j := 16 * (n / 16) + u.1) (by first | omega | (simp; done) | (simp; omega))) rr) jj<|dx 5 O (by kernel_rfl) (fun w hS =>ldx sc5 O O O (hc.st hS) (by first | omega | (simp; done) | (simp; omega)) rr) jj<|dx 6 O (by kernel_rfl) (fun w hS =>mv O O O rr) jj<|dx 7 O (by kernel_rfl) (fun w hS =>mv O O O rr) jj<|dx 8 O (by kernel_rfl) (fun w hS =>muli (by omega) (by omega) O O O O rr) jj<|dx 9 O (by kernel_rfl) (fun w hS =>subi (by omega) (by omega) O O O O rr) jj<|dx 10 O (by kernel_rfl) (fun w hS =>ian ((16 * (n / 16) + u.1) - (16 * (n / 16))) (((16 * (n / 16) + u.1) - (16 * (n / 16)))) un22 sz5 O O O O (by omega) (by omega) (by omega) rr) jj ?_
    refine dx 11 O (by kernel_rfl) (fun w hS =>lo 0 sc5 hS O O O O (BV_get _ ((16 * (n / 16) + u.1) - (16 * (n / 16))) (by omega)) rr) jj<|dx 12 O (by kernel_rfl) (fun w hS =>xor8 O O O O rr) jj ?_
    refine dl 13 O (by kernel_rfl)<|bsl (cs := #[U8 ((gl bs (16 * (n / 16) + u.1)) ^^^ (gv (enc key (xorV (crO key nonce (n / 16)) (star key))) ((16 * (n / 16) + u.1) - (16 * (n / 16)))))]) sl30 hS O O O O (by kernel_rfl) fun b94 w hb94 hS =>lx (hS.sl 7 126) fun jj =>?_
    refine dl 14 O (by kernel_rfl)<|app (A := [(b94, .cells (#[U8 ((gl bs (16 * (n / 16) + u.1)) ^^^ (gv (enc key (xorV (crO key nonce (n / 16)) (star key))) ((16 * (n / 16) + u.1) - (16 * (n / 16)))))]) 5), (b13, .cells (BV (enc key (xorV (crO key nonce (n / 16)) (star key)))) 22), (b8, .cells (#[.slice u.2.1 (n / 16 * 16 + u.1) u.2.2.1] ++ (BV (crC bs (n / 16)) ++ BV (xorV (crO key nonce (n / 16)) (star key)))) 217), (b7, .cells (BV (star key)) 22), (b6, .cells (#[(.slice none 0 0)] ++ (BV (Vector.replicate 16 0) ++ BV (Vector.replicate 16 0))) 217), (b4, .cells (BV nonce) 173), (b3, .cells (BV (expand key) ++ BV sboxV) 45)]) (R := []) sl30 hO hS O O O O (src8 un30 _ (Cel.lb (l := [(gl bs (16 * (n / 16) + u.1)) ^^^ (gv (enc key (xorV (crO key nonce (n / 16)) (star key))) ((16 * (n / 16) + u.1) - (16 * (n / 16))))]) (hS.get 0 O)) (by first | rfl | omega | (simp; omega) | (simp; done))) (by omega) (by omega) fun a95 c95 X95 w hO95 hS =>?_
    try simp only [c8_app] at hO95
    refine lx (hS.sl 7 126) fun jj =>?_
    refine dl 15 O (by kernel_rfl)<|fan 0 0 un217 O sz30 (by decide) O O O O (by omega)<|ly O ?_
    refine dl 16 O (by kernel_rfl)<|st 2 sz30 hS O O O O O O (lt_sz (a := 33) (cat_size (a := 1) (b := 32) O (cat_size (a := 16) (b := 16) (BV_size _) (BV_size _))) (by omega)) (cat_sl (a := 1) O (by omega) O) fun w hS =>ly O<|de (by kernel_rfl)<|q_block_norm<|wt<|wc_region<|mv O O O<|addi (by omega) (by omega) O O O O<|asg O O O ?_
    refine again_q (u.1 + 1, a95, c95, X95) ⟨O, O, O, O, O, lkI O (by first | omega | rfl), trivial⟩ ⟨⟨by omega, by have h := hO95; rw [List.append_assoc] at h; exact h⟩, hS.tl⟩ (by omega)
   ·try simp only [SB] at hc3
    refine wc_exit<|q_then_exit<|q_then_exit<|q_block_hit<|wt<|wc_draw mo 8 (fun w =>St w0 [] ([(b13, .cells (BV (enc key (xorV (crO key nonce (n / 16)) (star key)))) 22), (b8, .cells (#[.slice u.2.1 (n / 16 * 16 + u.1) u.2.2.1] ++ (BV (crC bs (n / 16)) ++ BV (xorV (crO key nonce (n / 16)) (star key)))) 217), (b7, .cells (BV (star key)) 22), (b6, .cells (#[(.slice none 0 0)] ++ (BV (Vector.replicate 16 0) ++ BV (Vector.replicate 16 0))) 217), (b4, .cells (BV nonce) 173), (b3, .cells (BV (expand key) ++ BV sboxV) 45)] ++ (u.2.2.2 ++ [])) w) ?_
    have hS := hS.drew
    refine jx hS fun jj =>dx 0 O (by kernel_rfl) (fun w hS =>fan 1 1 un217 O sz22 (by decide) O O O O (by omega) rr) jj<|dx 1 O (by kernel_rfl) (fun w hS =>lp (u := .agg (BV (crC bs (n / 16)))) 1 ag22 hS O O O O (le_sz (a := 33) (cat_size (a := 1) (b := 32) O (cat_size (a := 16) (b := 16) (BV_size _) (BV_size _))) (by omega)) (cat_xr (a := 1) (o' := 0) O (by omega) (cat_xl (a := 16) (BV_size _) (by omega) (ext_all (BV_size _)))) O rr) jj<|dx 2 O (by kernel_rfl) (fun w hS =>mv O O O rr) jj<|dx 3 O (by kernel_rfl) (fun w hS =>mv O O O rr) jj<|dx 4 O (by kernel_rfl) (fun w hS =>muli (by omega) (by omega) O O O O rr) jj<|dx 5 O (by kernel_rfl) (fun w hS =>s_l (16 * (n / 16)) un30 sz5 O O O O (by omega) (by omega) rr) jj ?_
    refine dl 6 O (by kernel_rfl)<|cv cf160 hS O O O O O (sp_mooringref08_Pad ((sla a (16 * (n / 16)) cap)) ((n - (16 * (n / 16)))) ((cap - (16 * (n / 16)))) (((bs).drop (16 * (n / 16)))) _ (by first | rfl | omega | (simp; omega) | (simp; done)) (by omega) ((hc.st hS).drop8 (lo := 16 * (n / 16)) (cap := cap) (by first | omega | (simp; omega) | simp)) (by omega)) fun w hS =>lx hS fun jj =>?_
    refine dl 7 O (by kernel_rfl)<|cv cf155 hS O O O O O (sp_mooringref08_Xor ((crC bs (n / 16))) ((padV ((bs).drop (16 * (n / 16))))) _) fun w hS =>lx hS fun jj =>?_
    refine dl 8 O (by kernel_rfl)<|fan 1 1 un217 O sz22 (by decide) O O O O (by omega)<|ly O ?_
    refine dl 9 O (by kernel_rfl)<|spp (cs' := #[.slice u.2.1 (n / 16 * 16 + u.1) u.2.2.1] ++ (BV (xorV (crC bs (n / 16)) (padV ((bs).drop (16 * (n / 16))))) ++ BV (xorV (crO key nonce (n / 16)) (star key)))) 1 ag22 hS O O O (BV_one _) O (le_sz (a := 33) (cat_size (a := 1) (b := 32) O (cat_size (a := 16) (b := 16) (BV_size _) (BV_size _))) (by omega)) (BV_size _) (cat_pr (a := 1) (o' := 0) O (by omega) (ple2 (BV_size _) (cat_size (a := 16) (b := 16) (BV_size _) (BV_size _)) (by omega)) (cat_pl (a := 16) (BV_size _) (ple (BV_size _) (by omega)) (put_all (BV_size _) (BV_size _)))) fun w hS =>ly O<|de (by kernel_rfl)<|wt<|rg<|la 1 ag217 hS O O O O (cat_size (a := 1) (b := 32) O (cat_size (a := 16) (b := 16) (BV_size _) (BV_size _)))<|sa 3 ag217 hS O O O (cat_one (by first | rfl | kernel_rfl | (simp [Value.oneCell'])) (cat_one (BV_one _) (BV_one _))) O (cat_size (a := 1) (b := 32) O (cat_size (a := 16) (b := 16) (BV_size _) (BV_size _))) (cat_size (a := 1) (b := 32) O (cat_size (a := 16) (b := 16) (BV_size _) (BV_size _))) fun w hS =>wt<|wc_ret<|fin1 (v := .agg (#[.slice u.2.1 (n / 16 * 16 + u.1) u.2.2.1] ++ (BV (xorV (crC bs (n / 16)) (padV ((bs).drop (16 * (n / 16))))) ++ BV (xorV (crO key nonce (n / 16)) (star key))))) O ⟨_, O, lv_a ag217 (hS.get 3 O) (cat_size (a := 1) (b := 32) O (cat_size (a := 16) (b := 16) (BV_size _) (BV_size _)))⟩ ?_
    have hm2 : u.1 = n - 16 * (n / 16) := by omega
    have e : n / 16 * 16 + (n - 16 * (n / 16)) = n := by omega
    rw [hm2, e, cryT_1 hn h16] at hO
    exact ⟨_, _, rfl, ⟨_, _, by rw [hm2, e, cryC_1 hn h16, cryO_1 h16], hO⟩, hS.sublist (.cons _ (.cons _ (.cons _ (.cons _ (.cons _ (.cons _ (List.sublist_append_left u.2.2.2 [])))))))⟩
  ·try simp only [SB] at hc2
   have h16 : ¬ 0 < n % 16 := by omega
   refine wc_skip<|wt<|rg<|la 0 ag217 hS O O O O (cat_size (a := 1) (b := 32) O (cat_size (a := 16) (b := 16) (BV_size _) (BV_size _)))<|sa 2 ag217 hS O O O (cat_one (by first | rfl | kernel_rfl | (simp [Value.oneCell'])) (cat_one (BV_one _) (BV_one _))) O (cat_size (a := 1) (b := 32) O (cat_size (a := 16) (b := 16) (BV_size _) (BV_size _))) (cat_size (a := 1) (b := 32) O (cat_size (a := 16) (b := 16) (BV_size _) (BV_size _))) fun w hS =>wt<|wc_ret<|fin1 (v := .agg (#[.slice s.2.1 (n / 16 * 16) s.2.2.1] ++ (BV (crC bs (n / 16)) ++ BV (crO key nonce (n / 16))))) O ⟨_, O, lv_a ag217 (hS.get 2 O) (cat_size (a := 1) (b := 32) O (cat_size (a := 16) (b := 16) (BV_size _) (BV_size _)))⟩ ?_
   have e : n / 16 * 16 = n := by omega
   rw [e, cryT_0 hn h16] at hO
   exact ⟨_, _, rfl, ⟨_, _, by rw [e, cryC_0 hn h16, cryO_0 h16], hO⟩, hS.sublist (.cons _ (.cons _ (.cons _ (.cons _ (.cons _ (List.sublist_append_left s.2.2.2 []))))))⟩
theorem sp_mooringref11_Sum (key : V8 16) (a : Option Addr) (n cap : Nat) (bs : List UInt8) (w0 : World) (hn : bs.length = n) (hN : n ≤ 1000000) (hc : Cel w0 a (c8 bs)) (hcap : n ≤ cap) (h4 : n ≤ 4000) : Calls Tryz.prog 162 #[.agg (BV (expand key) ++ BV sboxV), .slice a n cap] w0 (Ret w0 (.agg (BV (hashV key bs)))) := by
 refine enter (args := [.agg (BV (expand key) ++ BV sboxV), .slice a n cap]) Tryz.func162 O O<|startw fun w hS =>rg<|bxa hS O O O fun b2 w hb2 hS =>ala zr22 hS O O fun b4 w hb4 hS =>wt<|rg<|la 1 ag45 hS O O O O (cat_size (a := 176) (b := 256) (BV_size _) (BV_size _))<|cv cf153 hS O O O O O (sp_mooringref09_Star key _) fun w hS =>ala zr22 hS O O fun b5 w hb5 hS =>sa 0 ag22 hS O O O (BV_one _) O (BV_size _) (BV_size _) fun w hS =>wt ?_
 refine rg<|ala zr22 hS O O fun b6 w hb6 hS =>wt<|rg<|ala zr22 hS O O fun b7 w hb7 hS =>wt<|rg<|mv O O O<|lens un30 O O O<|quoi (by omega) (by omega) (by omega) O O O O<|asg O O O<|wt ?_
 refine wc_seq<|rg<|asg O O O<|wt<|wc_block ?_
 refine wc_loop (σ := Nat) (fun k =>[(1, .slice a n cap), (2, Ptr b2 0), (4, Ptr b4 0), (5, Ptr b5 0), (6, Ptr b6 0), (7, Ptr b7 0), (8, I (((n : Nat) : Int) / 16)), (9, I ((k : Int)))])
  (fun k w => (k ≤ n / 16) ∧ St w0 [] [(b7, .cells (BV ((sumL key bs k).2)) 22), (b6, .cells (BV ((sumL key bs k).1)) 22), (b5, .cells (BV (star key)) 22), (b4, .cells (BV (Vector.replicate 16 0)) 22), (b2, .cells (BV (expand key) ++ BV sboxV) 45)] w) (fun k => n / 16 - k) 0 ⟨rfl, rfl, rfl, rfl, rfl, rfl, rfl, rfl, trivial⟩ ⟨by omega, hS⟩ ?_
 rintro k w ⟨hk, hS⟩
 refine wc_seq<|rg<|mv O O O<|mv O O O<|lss O O O O<|wt ?_
 refine wc_if O (fun hc1 =>?_) (fun hc1 =>?_)
 ·try simp only [SB] at hc1
  refine wc_skip<|wt<|wc_seq<|wc_block<|rd mo 7 (fun w =>St w0 [] [(b7, .cells (BV ((sumL key bs k).2)) 22), (b6, .cells (BV ((sumL key bs k).1)) 22), (b5, .cells (BV (star key)) 22), (b4, .cells (BV (Vector.replicate 16 0)) 22), (b2, .cells (BV (expand key) ++ BV sboxV) 45)] w)<|have hS := hS.drew; jx hS fun jj =>dx 0 O (by kernel_rfl) (fun w hS =>la 0 ag22 hS O O O O (BV_size _) rr) jj<|dx 1 O (by kernel_rfl) (fun w hS =>la 2 ag22 hS O O O O (BV_size _) rr) jj<|dx 2 O (by kernel_rfl) (fun w hS =>mv O O O rr) jj<|dx 3 O (by kernel_rfl) (fun w hS =>addi (by omega) (by omega) O O O O rr) jj<|dx 4 O (by kernel_rfl) (fun w hS =>cvu64 un24 ⟨_, un3⟩ O O O rr) jj ?_
  refine dl 5 O (by kernel_rfl)<|cv cf156 hS O O O O O (sp_mooringref09_For key (k + 1) ((star key)) ((toU64 ((k : Int) + 1))) _ O O (by omega) (by omega)) fun w hS =>lx hS fun jj =>?_
  refine dl 6 O (by kernel_rfl)<|cv (v := .agg (BV ((sumL key bs (k + 1)).2))) cf155 hS O O O O O (sp_mooringref08_Xor (((sumL key bs k).2)) ((forN key (toU64 ((k + 1 : Nat) : Int)))) _) fun w hS =>lx hS fun jj =>?_
  refine dl 7 O (by kernel_rfl)<|sa 0 ag22 hS O O O (BV_one _) O (BV_size _) (BV_size _) fun w hS =>ly O<|de (by kernel_rfl)<|wt<|wc_draw mo 9 (fun w =>St w0 [] [(b7, .cells (BV ((sumL key bs (k + 1)).2)) 22), (b6, .cells (BV ((sumL key bs k).1)) 22), (b5, .cells (BV (star key)) 22), (b4, .cells (BV (Vector.replicate 16 0)) 22), (b2, .cells (BV (expand key) ++ BV sboxV) 45)] w)<|have hS := hS.drew; jx hS fun jj =>dx 0 O (by kernel_rfl) (fun w hS =>la 1 ag22 hS O O O O (BV_size _) rr) jj<|dx 1 O (by kernel_rfl) (fun w hS =>la 4 ag45 hS O O O O (cat_size (a := 176) (b := 256) (BV_size _) (BV_size _)) rr) jj<|dx 2 O (by kernel_rfl) (fun w hS =>mv O O O rr) jj<|dx 3 O (by kernel_rfl) (fun w hS =>mv O O O rr) jj<|dx 5 O (by kernel_rfl) (fun w hS =>la 0 ag22 hS O O O O (BV_size _) rr) jj ?_
  refine dl 4 O (by kernel_rfl)<|cv cf158 hS O O O O O (sp_mooringref08_Part a n cap bs k _ _ (by omega) (by first | rfl | omega | (simp; omega) | (simp; done)) (by omega) (hc.st hS) (by omega) (by omega)) fun w hS =>lx hS fun jj =>?_
  refine dl 6 O (by kernel_rfl)<|cv cf155 hS O O O O O (sp_mooringref08_Xor ((blk bs k)) (((sumL key bs (k + 1)).2)) _) fun w hS =>lx hS fun jj =>?_
  refine dl 7 O (by kernel_rfl)<|cv cf159 hS O O O O O (sp_mooringref06_Encrypt key ((xorV (blk bs k) ((sumL key bs (k + 1)).2))) _) fun w hS =>lx hS fun jj =>?_
  refine dl 8 O (by kernel_rfl)<|cv (v := .agg (BV ((sumL key bs (k + 1)).1))) cf155 hS O O O O O (sp_mooringref08_Xor (((sumL key bs k).1)) ((enc key (xorV (blk bs k) ((sumL key bs (k + 1)).2)))) _) fun w hS =>lx hS fun jj =>?_
  refine dl 9 O (by kernel_rfl)<|sa 1 ag22 hS O O O (BV_one _) O (BV_size _) (BV_size _) fun w hS =>ly O<|de (by kernel_rfl)<|q_block_norm<|wt<|wc_region<|mv O O O<|addi (by omega) (by omega) O O O O<|asg O O O ?_
  refine again_q (k + 1) ⟨O, O, O, O, O, O, O, lkI O (by first | omega | rfl), trivial⟩ ⟨by omega, hS⟩ (by omega)
 ·try simp only [SB] at hc1
  have hk4 : k = n / 16 := by omega
  rw [hk4] at hS
  refine wc_exit<|q_then_exit<|q_then_exit<|q_block_hit<|wt<|wc_seq<|rg<|mv O O O<|lens un30 O O O<|remi (by omega) (by omega) O O O O<|gtr O O O O<|wt ?_
  refine wc_if O (fun hc2 =>?_) (fun hc2 =>?_)
  ·try simp only [SB] at hc2
   have h16 : 0 < n % 16 := by omega
   refine sqj (fun l w =>∃ (b10 : Nat), l = [(2, Ptr b2 0), (4, Ptr b4 0), (6, Ptr b6 0), (10, Ptr b10 0)] ∧ St w0 [] [(b10, .cells (BV (xorV (padV ((bs).drop (16 * (n / 16)))) (xorV ((sumL key bs (n / 16)).2) (star key)))) 22), (b7, .cells (BV ((sumL key bs (n / 16)).2)) 22), (b6, .cells (BV ((sumL key bs (n / 16)).1)) 22), (b5, .cells (BV (star key)) 22), (b4, .cells (BV (Vector.replicate 16 0)) 22), (b2, .cells (BV (expand key) ++ BV sboxV) 45)] w) ?_ ?_
   ·refine wc_draw mo 10 (fun w =>St w0 [] [(b7, .cells (BV ((sumL key bs (n / 16)).2)) 22), (b6, .cells (BV ((sumL key bs (n / 16)).1)) 22), (b5, .cells (BV (star key)) 22), (b4, .cells (BV (Vector.replicate 16 0)) 22), (b2, .cells (BV (expand key) ++ BV sboxV) 45)] w)<|have hS := hS.drew; jx hS fun jj =>dx 0 O (by kernel_rfl) (fun w hS =>mv O O O rr) jj<|dx 1 O (by kernel_rfl) (fun w hS =>mv O O O rr) jj<|dx 2 O (by kernel_rfl) (fun w hS =>muli (by omega) (by omega) O O O O rr) jj<|dx 3 O (by kernel_rfl) (fun w hS =>s_l (16 * (n / 16)) un30 sz5 O O O O (by omega) (by omega) rr) jj<|dx 5 O (by kernel_rfl) (fun w hS =>la 0 ag22 hS O O O O (BV_size _) rr) jj<|dx 6 O (by kernel_rfl) (fun w hS =>la 2 ag22 hS O O O O (BV_size _) rr) jj ?_
    refine dl2 4 9 O O (by kernel_rfl) ?_ ?_
    ·refine cv cf160 hS O O O O O (sp_mooringref08_Pad ((sla a (16 * (n / 16)) cap)) ((n - (16 * (n / 16)))) ((cap - (16 * (n / 16)))) (((bs).drop (16 * (n / 16)))) _ (by first | rfl | omega | (simp; omega) | (simp; done)) (by omega) ((hc.st hS).drop8 (lo := 16 * (n / 16)) (cap := cap) (by first | omega | (simp; omega) | simp)) (by omega)) fun w hS =>lx hS fun jj =>?_
     refine dl2 7 9 O O (by kernel_rfl) ?_ ?_
     ·refine cv cf155 hS O O O O O (sp_mooringref08_Xor (((sumL key bs (n / 16)).2)) ((star key)) _) fun w hS =>lx hS fun jj =>?_
      refine dl2 8 9 O O (by kernel_rfl) ?_ ?_
      ·refine cv cf155 hS O O O O O (sp_mooringref08_Xor ((padV ((bs).drop (16 * (n / 16))))) ((xorV ((sumL key bs (n / 16)).2) (star key))) _) fun w hS =>lx hS fun jj =>?_
       refine dl 9 O (by kernel_rfl)<|ala zr22 hS O O fun b10 w hb10 hS =>lx hS.tl fun jj =>?_
       refine dl 10 O (by kernel_rfl)<|sa 0 ag22 hS O O O (BV_one _) O (BV_size _) (BV_size _) fun w hS =>ly O<|de (by kernel_rfl) ?_
       exact mmq ⟨b10, rfl, hS⟩ ⟨rfl, rfl, rfl, rfl, trivial⟩
      ·refine ala zr22 hS O O fun b10 w hb10 hS =>lx hS.tl fun jj =>?_
       refine dl 8 O (by kernel_rfl)<|cv cf155 hS O O O O O (sp_mooringref08_Xor ((padV ((bs).drop (16 * (n / 16))))) ((xorV ((sumL key bs (n / 16)).2) (star key))) _) fun w hS =>lx hS.tl fun jj =>?_
       refine dl 10 O (by kernel_rfl)<|sa 0 ag22 hS O O O (BV_one _) O (BV_size _) (BV_size _) fun w hS =>ly O<|de (by kernel_rfl) ?_
       exact mmq ⟨b10, rfl, hS⟩ ⟨rfl, rfl, rfl, rfl, trivial⟩
     ·refine ala zr22 hS O O fun b10 w hb10 hS =>lx hS.tl fun jj =>?_
      refine dl 7 O (by kernel_rfl)<|cv cf155 hS O O O O O (sp_mooringref08_Xor (((sumL key bs (n / 16)).2)) ((star key)) _) fun w hS =>lx hS.tl fun jj =>?_
      refine dl 8 O (by kernel_rfl)<|cv cf155 hS O O O O O (sp_mooringref08_Xor ((padV ((bs).drop (16 * (n / 16))))) ((xorV ((sumL key bs (n / 16)).2) (star key))) _) fun w hS =>lx hS.tl fun jj =>?_
      refine dl 10 O (by kernel_rfl)<|sa 0 ag22 hS O O O (BV_one _) O (BV_size _) (BV_size _) fun w hS =>ly O<|de (by kernel_rfl) ?_
      exact mmq ⟨b10, rfl, hS⟩ ⟨rfl, rfl, rfl, rfl, trivial⟩
    ·refine ala zr22 hS O O fun b10 w hb10 hS =>lx hS.tl fun jj =>?_
     refine dl 4 O (by kernel_rfl)<|cv cf160 hS O O O O O (sp_mooringref08_Pad ((sla a (16 * (n / 16)) cap)) ((n - (16 * (n / 16)))) ((cap - (16 * (n / 16)))) (((bs).drop (16 * (n / 16)))) _ (by first | rfl | omega | (simp; omega) | (simp; done)) (by omega) ((hc.st hS).drop8 (lo := 16 * (n / 16)) (cap := cap) (by first | omega | (simp; omega) | simp)) (by omega)) fun w hS =>lx hS.tl fun jj =>?_
     refine dl 7 O (by kernel_rfl)<|cv cf155 hS O O O O O (sp_mooringref08_Xor (((sumL key bs (n / 16)).2)) ((star key)) _) fun w hS =>lx hS.tl fun jj =>?_
     refine dl 8 O (by kernel_rfl)<|cv cf155 hS O O O O O (sp_mooringref08_Xor ((padV ((bs).drop (16 * (n / 16))))) ((xorV ((sumL key bs (n / 16)).2) (star key))) _) fun w hS =>lx hS.tl fun jj =>?_
     refine dl 10 O (by kernel_rfl)<|sa 0 ag22 hS O O O (BV_one _) O (BV_size _) (BV_size _) fun w hS =>ly O<|de (by kernel_rfl) ?_
     exact mmq ⟨b10, rfl, hS⟩ ⟨rfl, rfl, rfl, rfl, trivial⟩
   ·rintro _ w ⟨b10, rfl, hS⟩
    refine wc_draw mo 5 (fun w =>St w0 [] [(b10, .cells (BV (xorV (padV ((bs).drop (16 * (n / 16)))) (xorV ((sumL key bs (n / 16)).2) (star key)))) 22), (b7, .cells (BV ((sumL key bs (n / 16)).2)) 22), (b6, .cells (BV ((sumL key bs (n / 16)).1)) 22), (b5, .cells (BV (star key)) 22), (b4, .cells (BV (Vector.replicate 16 0)) 22), (b2, .cells (BV (expand key) ++ BV sboxV) 45)] w)<|have hS := hS.drew; jx hS fun jj =>dx 0 O (by kernel_rfl) (fun w hS =>la 2 ag22 hS O O O O (BV_size _) rr) jj<|dx 1 O (by kernel_rfl) (fun w hS =>la 5 ag45 hS O O O O (cat_size (a := 176) (b := 256) (BV_size _) (BV_size _)) rr) jj<|dx 2 O (by kernel_rfl) (fun w hS =>la 0 ag22 hS O O O O (BV_size _) rr) jj ?_
    refine dl 3 O (by kernel_rfl)<|cv cf159 hS O O O O O (sp_mooringref06_Encrypt key ((xorV (padV ((bs).drop (16 * (n / 16)))) (xorV ((sumL key bs (n / 16)).2) (star key)))) _) fun w hS =>lx hS fun jj =>?_
    refine dl 4 O (by kernel_rfl)<|cv cf155 hS O O O O O (sp_mooringref08_Xor (((sumL key bs (n / 16)).1)) ((enc key (xorV (padV ((bs).drop (16 * (n / 16)))) (xorV ((sumL key bs (n / 16)).2) (star key))))) _) fun w hS =>lx hS fun jj =>?_
    refine dl 5 O (by kernel_rfl)<|sa 2 ag22 hS O O O (BV_one _) O (BV_size _) (BV_size _) fun w hS =>ly O<|de (by kernel_rfl)<|wt<|rg<|la 2 ag22 hS O O O O (BV_size _)<|sa 4 ag22 hS O O O (BV_one _) O (BV_size _) (BV_size _) fun w hS =>wt<|wc_ret<|fin1 (v := .agg (BV (xorV ((sumL key bs (n / 16)).1) (enc key (xorV (padV ((bs).drop (16 * (n / 16)))) (xorV ((sumL key bs (n / 16)).2) (star key))))))) O ⟨_, O, lv_a ag22 (hS.get 4 O) (BV_size _)⟩ ?_
    refine ⟨?_, hS.drop⟩
    rw [← hash_1 hn h16]
  ·try simp only [SB] at hc2
   have h16 : ¬ 0 < n % 16 := by omega
   refine wc_skip<|wt<|rg<|la 1 ag22 hS O O O O (BV_size _)<|sa 3 ag22 hS O O O (BV_one _) O (BV_size _) (BV_size _) fun w hS =>wt<|wc_ret<|fin1 (v := .agg (BV ((sumL key bs (n / 16)).1))) O ⟨_, O, lv_a ag22 (hS.get 3 O) (BV_size _)⟩ ?_
   refine ⟨?_, hS.drop⟩
   rw [← hash_0 hn h16]
theorem sp_mooringref12_Tag (key ck off : V8 16) (a2 : Option Addr) (n2 cap2 : Nat) (a : Option Addr) (n cap : Nat) (bs : List UInt8) (w0 : World) (hn : bs.length = n) (hN : n ≤ 1000000) (hc : Cel w0 a (c8 bs)) (hcap : n ≤ cap) (h4 : n ≤ 4000) : Calls Tryz.prog 126 #[.agg (BV (expand key) ++ BV sboxV), .agg (#[.slice a2 n2 cap2] ++ (BV ck ++ BV off)), .slice a n cap] w0 (Ret w0 (.agg (BV (tagV key ck off bs)))) := by
 refine enter Tryz.func126 O O<|startw fun w hS =>rg<|bxa hS O O O fun b3 w hb3 hS =>bxa hS O O O fun b4 w hb4 hS =>ala zr22 hS O O fun b6 w hb6 hS =>wt<|rg<|fan 1 1 un217 O sz22 (by decide) O O O O (by omega)<|lp (u := .agg (BV ck)) 1 ag22 hS O O O O (le_sz (a := 33) (cat_size (a := 1) (b := 32) O (cat_size (a := 16) (b := 16) (BV_size _) (BV_size _))) (by omega)) (cat_xr (a := 1) (o' := 0) O (by omega) (cat_xl (a := 16) (BV_size _) (by omega) (ext_all (BV_size _)))) O<|fan 17 17 un217 O sz22 (by decide) O O O O (by omega)<|lp (u := .agg (BV off)) 1 ag22 hS O O O O (le_sz (a := 33) (cat_size (a := 1) (b := 32) O (cat_size (a := 16) (b := 16) (BV_size _) (BV_size _))) (by omega)) (cat_xr (a := 1) (o' := 16) O (by omega) (cat_xr (a := 16) (o' := 0) (BV_size _) (by omega) (ext_all (BV_size _)))) O ?_
 refine cv cf155 hS O O O O O (sp_mooringref08_Xor ck off _) fun w hS =>ala zr22 hS O O fun b7 w hb7 hS =>sa 0 ag22 hS O O O (BV_one _) O (BV_size _) (BV_size _) fun w hS =>wt<|rd mo 5 (fun w =>St w0 [] [(b7, .cells (BV (xorV ck off)) 22), (b6, .cells (BV (Vector.replicate 16 0)) 22), (b4, .cells (#[.slice a2 n2 cap2] ++ (BV ck ++ BV off)) 217), (b3, .cells (BV (expand key) ++ BV sboxV) 45)] w) ?_
 have hS := hS.drew
 refine jx hS fun jj =>dx 0 O (by kernel_rfl) (fun w hS =>la 0 ag22 hS O O O O (BV_size _) rr) jj<|dx 1 O (by kernel_rfl) (fun w hS =>la 3 ag45 hS O O O O (cat_size (a := 176) (b := 256) (BV_size _) (BV_size _)) rr) jj ?_
 refine dl 2 O (by kernel_rfl)<|cv cf153 hS O O O O O (sp_mooringref09_Star key _) fun w hS =>lx hS fun jj =>?_
 refine dl 3 O (by kernel_rfl)<|cv cf161 hS O O O O O (sp_mooringref08_Double ((star key)) _) fun w hS =>lx hS fun jj =>?_
 refine dl 4 O (by kernel_rfl)<|cv cf155 hS O O O O O (sp_mooringref08_Xor ((xorV ck off)) ((dblB (star key))) _) fun w hS =>lx hS fun jj =>?_
 refine dl 5 O (by kernel_rfl)<|sa 0 ag22 hS O O O (BV_one _) O (BV_size _) (BV_size _) fun w hS =>ly O<|de (by kernel_rfl)<|wt<|rd mo 7 (fun w =>St w0 [] [(b7, .cells (BV (xorV (xorV ck off) (dblB (star key)))) 22), (b6, .cells (BV (Vector.replicate 16 0)) 22), (b4, .cells (#[.slice a2 n2 cap2] ++ (BV ck ++ BV off)) 217), (b3, .cells (BV (expand key) ++ BV sboxV) 45)] w) ?_
 have hS := hS.drew
 refine jx hS fun jj =>dx 0 O (by kernel_rfl) (fun w hS =>la 3 ag45 hS O O O O (cat_size (a := 176) (b := 256) (BV_size _) (BV_size _)) rr) jj<|dx 1 O (by kernel_rfl) (fun w hS =>la 0 ag22 hS O O O O (BV_size _) rr) jj<|dx 3 O (by kernel_rfl) (fun w hS =>la 3 ag45 hS O O O O (cat_size (a := 176) (b := 256) (BV_size _) (BV_size _)) rr) jj<|dx 4 O (by kernel_rfl) (fun w hS =>mv O O O rr) jj ?_
 refine dl 2 O (by kernel_rfl)<|cv cf159 hS O O O O O (sp_mooringref06_Encrypt key ((xorV (xorV ck off) (dblB (star key)))) _) fun w hS =>lx hS fun jj =>?_
 refine dl 5 O (by kernel_rfl)<|cv cf162 hS O O O O O (sp_mooringref11_Sum key a n cap bs _ (by first | rfl | omega | (simp; omega) | (simp; done)) (by omega) (hc.st hS) (by omega) (by omega)) fun w hS =>lx hS fun jj =>?_
 refine dl 6 O (by kernel_rfl)<|cv cf155 hS O O O O O (sp_mooringref08_Xor ((enc key (xorV (xorV ck off) (dblB (star key))))) ((hashV key bs)) _) fun w hS =>lx hS fun jj =>?_
 refine dl 7 O (by kernel_rfl)<|sa 1 ag22 hS O O O (BV_one _) O (BV_size _) (BV_size _) fun w hS =>ly O<|de (by kernel_rfl)<|wt<|wc_ret<|fin1 (v := .agg (BV (xorV (enc key (xorV (xorV ck off) (dblB (star key)))) (hashV key bs)))) O ⟨_, O, lv_a ag22 (hS.get 1 O) (BV_size _)⟩ ?_
 refine ⟨?_, hS.drop⟩
 rw [tag_eq]
theorem sp_mooringref12_Seal (key : V8 16) (nonce : V8 12) (a : Option Addr) (n cap : Nat) (bs : List UInt8) (a2 : Option Addr) (n2 cap2 : Nat) (bs2 : List UInt8) (w0 : World) (hn : bs.length = n) (hN : n ≤ 1000000) (hc : Cel w0 a (c8 bs)) (hcap : n ≤ cap) (h4 : n ≤ 4000) (hn2 : bs2.length = n2) (hN2 : n2 ≤ 1000000) (he2 : Cel w0 a2 (c8 bs2)) (hcap2 : n2 ≤ cap2) (h42 : n2 ≤ 4000) : Calls Tryz.prog 101 #[.agg (BV (expand key) ++ BV sboxV), .agg (BV nonce), .slice a2 n2 cap2, .slice a n cap] w0 (RetS w0 (fun v X => ∃ a' c', v = .slice a' (n + 16) c' ∧ Own 1 a' (n + 16) c' (c8 (sealV key nonce bs2 bs)) X)) := by
 refine enter (args := [.agg (BV (expand key) ++ BV sboxV), .agg (BV nonce), .slice a2 n2 cap2, .slice a n cap]) Tryz.func101 O O<|startw fun w hS =>rg<|bxa hS O O O fun b4 w hb4 hS =>bxa hS O O O fun b5 w hb5 hS =>asg O O O<|wt<|rg<|la 1 ag45 hS O O O O (cat_size (a := 176) (b := 256) (BV_size _) (BV_size _))<|la 0 ag173 hS O O O O (BV_size _)<|mv O O O<|cs cf125 hS O O O O O (sp_mooringref12_Crypt key nonce a n cap bs _ (by first | rfl | omega | (simp; omega) | (simp; done)) (by omega) (hc.st hS) (by omega) (by omega)) ?_
 rintro _ X14 w ⟨a14, c14, rfl, hO14⟩ hS
 have hS := St.tailin (X := X14) hS [(b5, .cells (BV nonce) 173), (b4, .cells (BV (expand key) ++ BV sboxV) 45)] [] rfl
 refine ala zr217 hS O O fun b9 w hb9 hS =>sa 0 ag217 hS O O O (cat_one (by first | rfl | kernel_rfl | (simp [Value.oneCell'])) (cat_one (BV_one _) (BV_one _))) O (cat_size (a := 1) (b := 32) O (cat_size (a := 16) (b := 16) (BV_size _) (BV_size _))) (cat_size (a := 1) (b := 32) O (cat_size (a := 16) (b := 16) (BV_size _) (BV_size _))) fun w hS =>wt<|rg<|la 2 ag45 hS O O O O (cat_size (a := 176) (b := 256) (BV_size _) (BV_size _))<|la 0 ag217 hS O O O O (cat_size (a := 1) (b := 32) O (cat_size (a := 16) (b := 16) (BV_size _) (BV_size _)))<|mv O O O<|cv cf126 hS O O O O O (sp_mooringref12_Tag key ((cryC bs)) ((cryO key nonce n)) a14 n c14 a2 n2 cap2 bs2 _ (by first | rfl | omega | (simp; omega) | (simp; done)) (by omega) (he2.st hS) (by omega) (by omega)) fun w hS =>ala zr22 hS O O fun b10 w hb10 hS =>sa 0 ag22 hS O O O (BV_one _) O (BV_size _) (BV_size _) fun w hS =>wt<|rd mo 4 (fun w =>St w0 [] [(b10, .cells (BV (tagV key (cryC bs) (cryO key nonce n) bs2)) 22), (b9, .cells (#[.slice a14 n c14] ++ (BV (cryC bs) ++ BV (cryO key nonce n))) 217), (b5, .cells (BV nonce) 173), (b4, .cells (BV (expand key) ++ BV sboxV) 45)] w) ?_
 have hS := hS.drew
 refine jx (hS.sl 4 15) fun jj =>dx 0 O (by kernel_rfl) (fun w hS =>fan 0 0 un217 O sz30 (by decide) O O O O (by omega) rr) jj<|dx 1 O (by kernel_rfl) (fun w hS =>lo 1 sc30 hS O O O O (cat_l (a := 1) O (by omega) O) rr) jj<|dx 2 O (by kernel_rfl) (fun w hS =>a_all un22 ⟨_, sz5⟩ O O O rr) jj ?_
 refine dl 3 O (by kernel_rfl)<|app (A := [(b10, .cells (BV (tagV key (cryC bs) (cryO key nonce n) bs2)) 22), (b9, .cells (#[.slice a14 n c14] ++ (BV (cryC bs) ++ BV (cryO key nonce n))) 217), (b5, .cells (BV nonce) 173), (b4, .cells (BV (expand key) ++ BV sboxV) 45)]) (R := []) sl30 hO14 hS O O O O (src8 un30 _ (Cel.bv (hS.get 0 O)) Vector.length_toList) (by omega) (by omega) fun a22 c22 X22 w hO22 hS =>?_
 try simp only [c8_app] at hO22
 refine lx (hS.sl 4 15) fun jj =>?_
 refine dl 4 O (by kernel_rfl)<|asg O O O<|ly O<|de (by kernel_rfl)<|wt<|wc_ret<|fin1 (v := .slice a22 (n + 16) c22) O O ?_
 exact ⟨_, _, rfl, ⟨_, _, rfl, by rw [sealV, hn]; exact hO22⟩, hS.sublist (.cons _ (.cons _ (.cons _ (.cons _ (List.sublist_append_left X22 [])))))⟩
theorem sp_mooringref01_Bytes (x : UInt64) (n : Nat) (n_ : Int) (w0 : World) (hn_ : n_ = (n : Int)) (hn : n ≤ 8) : Calls Tryz.prog 124 #[U64 x, I n_] w0 (RetS w0 (fun v X => ∃ a' c', v = .slice a' n c' ∧ Own 1 a' n c' (c8 (bytesL x n)) X)) := by
 subst hn_
 refine enter (args := [U64 x, I (n : Int)]) Tryz.func124 O O<|startw fun w hS =>rg<|asg O O O<|wt<|rg<|asg O O O<|wt<|wc_seq<|rg<|asg O O O<|wt ?_
 refine wc_block ?_
 refine wc_loop (σ := (Nat × Option Addr × Nat × List (Nat × Obj))) (fun s =>[(0, U64 (byX x s.1)), (1, I ((n : Int))), (4, (.slice none 0 0)), (5, .slice s.2.1 s.1 s.2.2.1), (6, I ((s.1 : Int)))])
  (fun s w => (s.1 ≤ n ∧ Own 1 s.2.1 s.1 s.2.2.1 (c8 (bytesL x s.1)) s.2.2.2) ∧ St w0 [] ([] ++ (s.2.2.2 ++ [])) w) (fun s => n - s.1) (0, none, 0, []) ⟨rfl, rfl, rfl, rfl, rfl, trivial⟩ ⟨⟨by omega, Own.nil 1⟩, (by simpa using hS)⟩ ?_
 rintro s w ⟨⟨hk, hO⟩, hS⟩
 refine wc_seq<|rg<|mv O O O<|mv O O O<|lss O O O O<|mv O O O ?_
 refine spl 10 O (fun hb1 =>?_) (fun hb1 =>?_)
 ·try simp only [SB] at hb1
  refine mv O O O<|lss O O O O<|pk_t O O O O<|wt ?_
  refine wc_if O (fun hc1 =>?_) (fun hc1 =>?_)
  ·try simp only [SB] at hc1
   refine wc_skip<|wt<|wc_seq<|wc_block<|rg<|mv O O O<|rem64 (q := (256 : UInt64)) (by decide) O O O O<|cvu8 un5 ⟨_, un24⟩ O O O<|bsl (cs := #[U8 (toU8 ((((byX x s.1) % 256).toNat : Int)))]) sl30 hS O O O O (by kernel_rfl) fun b19 w hb19 hS =>mv O O O<|app (A := []) (X := [(b19, .cells (#[U8 (toU8 ((((byX x s.1) % 256).toNat : Int)))]) 5)]) (R := (s.2.2.2 ++ [])) sl30 (Own.blk (n := 1) O (by decide)) (St.toend (A := [(b19, .cells (#[U8 (toU8 ((((byX x s.1) % 256).toNat : Int)))]) 5)]) (R := (s.2.2.2 ++ [])) hS 0 O) O O O O (src8 un30 _ (hO.cel hS (fun p hp =>by simp [hp])) hO.len8) (by omega) (by omega) fun a21 c21 X21 w hO21 hS =>?_
   have hO21 : Own _ a21 (1 + s.1) c21 (c8 (([toU8 ((((byX x s.1) % 256).toNat : Int))]) ++ (bytesL x s.1))) X21 := hO21
   refine asg O O O<|wt<|wc_region<|mv O O O<|quo64 (q := (256 : UInt64)) (by decide) O O O O<|asg O O O<|q_block_norm<|wt<|wc_region<|mv O O O<|addi (by omega) (by omega) O O O O<|asg O O O ?_
   rw [Nat.add_comm 1 s.1]
   refine again_q (s.1 + 1, a21, c21, X21) ⟨O, O, O, O, lkI O (by first | omega | rfl), trivial⟩ ⟨⟨by omega, by have h := hO21; rw [Nat.add_comm, by_cons] at h; exact h⟩, St.drop2 (A := []) hS⟩ (by omega)
  ·try simp only [SB] at hc1
   refine wc_exit<|q_then_exit<|q_then_exit<|q_block_hit<|wt<|rg<|mv O O O<|asg O O O<|wt<|wc_ret<|fin1 (v := .slice s.2.1 s.1 s.2.2.1) O O ?_
   have hk4 : s.1 = n := by omega
   rw [hk4] at hO
   exact ⟨_, _, rfl, ⟨_, _, by rw [hk4], hO⟩, by simpa using hS⟩
 ·try simp only [SB] at hb1
  refine no O O<|no O O<|pk_f O O O O<|wt<|wc_if_f O<|wc_exit<|q_then_exit<|q_then_exit<|q_block_hit<|wt<|rg<|mv O O O ?_
  refine asg O O O<|wt<|wc_ret<|fin1 (v := .slice s.2.1 s.1 s.2.2.1) O O ?_
  have hk4 : s.1 = n := by omega
  rw [hk4] at hO
  exact ⟨_, _, rfl, ⟨_, _, by rw [hk4], hO⟩, by simpa using hS⟩
theorem sp_mooringref15_Head (d : Nat) (s : UInt64) (d_ : Int) (w0 : World) (hd_ : d_ = (d : Int)) (hd : d ≤ 1) (hs : s.toNat ≤ 9223372036854775807) : Calls Tryz.prog 100 #[I d_, U64 s] w0 (Ret w0 (.agg (BV (headV d s)))) := by
 subst hd_
 refine enter (args := [I (d : Int), U64 s]) Tryz.func100 O O<|startw fun w hS =>rg<|ala zr166 hS O O fun b4 w hb4 hS =>wt<|rg<|mv O O O<|asg O O O<|wt<|wc_seq<|rg<|mv O O O ?_
 refine eqi O O O O<|wt ?_
 refine wc_if O (fun hc1 =>?_) (fun hc1 =>?_)
 ·try simp only [SB] at hc1
  have hd1 : d = 1 := by omega
  refine wc_region<|mv O O O<|add64 (q := (9223372036854775808 : UInt64)) O O O O<|asg O O O<|wt<|rg<|mv O O O<|cs cf124 hS O O O O O (sp_mooringref01_Bytes ((s + 9223372036854775808)) 8 _ _ (by omega) (by omega)) ?_
  rintro _ X12 w ⟨a12, c12, rfl, hO12⟩ hS
  have hS := St.tailin (X := X12) hS [(b4, .cells (BV (Vector.replicate 8 0)) 166)] [] rfl
  have hle12 := hO12.len8
  have hle13 := hO12.le
  refine s2b un166 O O O (by omega) ((hO12.cel hS (fun p hp =>by simp [hp])).some8 (j := 0) (by first | omega | (simp; omega) | simp))<|ld O O O (lv_celj 0 ag166 (hO12.cel hS (fun p hp =>by simp [hp])) (by first | omega | (simp; done) | (simp; omega)) (by omega))<|sa 0 ag166 hS O O O (BV_one _) O (BV_size _) (BV_size _) fun w hS =>wt<|wc_ret<|fin1 (v := .agg (BV (ofl 8 (bytesL (s + 9223372036854775808) 8)))) O ⟨_, O, lv_a ag166 (hS.get 0 O) (BV_size _)⟩ ?_
  refine ⟨?_, hS.drop⟩
  subst hd1; exact congrArg (fun x => Ending.returned (.agg (BV (ofl 8 (bytesL x 8))))) (hd_1 s hs)
 ·try simp only [SB] at hc1
  have hd0 : d = 0 := by omega
  refine wc_skip<|wt<|rg<|mv O O O<|cs cf124 hS O O O O O (sp_mooringref01_Bytes s 8 _ _ (by omega) (by omega)) ?_
  rintro _ X12 w ⟨a12, c12, rfl, hO12⟩ hS
  have hS := St.tailin (X := X12) hS [(b4, .cells (BV (Vector.replicate 8 0)) 166)] [] rfl
  have hle12 := hO12.len8
  have hle13 := hO12.le
  refine s2b un166 O O O (by omega) ((hO12.cel hS (fun p hp =>by simp [hp])).some8 (j := 0) (by first | omega | (simp; omega) | simp))<|ld O O O (lv_celj 0 ag166 (hO12.cel hS (fun p hp =>by simp [hp])) (by first | omega | (simp; done) | (simp; omega)) (by omega))<|sa 0 ag166 hS O O O (BV_one _) O (BV_size _) (BV_size _) fun w hS =>wt<|wc_ret<|fin1 (v := .agg (BV (ofl 8 (bytesL s 8)))) O ⟨_, O, lv_a ag166 (hS.get 0 O) (BV_size _)⟩ ?_
  refine ⟨?_, hS.drop⟩
  subst hd0; exact congrArg (fun x => Ending.returned (.agg (BV (ofl 8 (bytesL x 8))))) (hd_0 s hs)
theorem sp_mooringref15_Make (d : Nat) (s : UInt64) (d_ : Int) (w0 : World) (hd_ : d_ = (d : Int)) (hd : d ≤ 1) (hs : s.toNat ≤ 9223372036854775807) : Calls Tryz.prog 96 #[I d_, U64 s] w0 (Ret w0 (.agg (BV (nonceV (headV d s))))) := by
 subst hd_
 refine enter (args := [I (d : Int), U64 s]) Tryz.func96 O O<|startw fun w hS =>rg<|ala zr173 hS O O fun b4 w hb4 hS =>wt<|rg<|ala zr173 hS O O fun b5 w hb5 hS =>wt<|rg<|mv O O O<|mv O O O<|cv cf100 hS O O O O O (sp_mooringref15_Head d s _ _ (by omega) (by omega) (by assumption)) fun w hS =>?_
 refine ala zr166 hS O O fun b6 w hb6 hS =>sa 0 ag166 hS O O O (BV_one _) O (BV_size _) (BV_size _) fun w hS =>wt<|wc_seq<|rg<|asg O O O<|wt<|wc_block ?_
 refine wc_loop (σ := Nat) (fun k =>[(4, Ptr b4 0), (5, Ptr b5 0), (6, Ptr b6 0), (7, I ((k : Int)))])
  (fun k w => (k ≤ 8) ∧ St w0 [] [(b6, .cells (BV (headV d s)) 166), (b5, .cells (BV (mkS (headV d s) k)) 173), (b4, .cells (BV (Vector.replicate 12 0)) 173)] w) (fun k => 8 - k) 0 ⟨rfl, rfl, rfl, rfl, trivial⟩ ⟨by omega, hS⟩ ?_
 rintro k w ⟨hk, hS⟩
 refine wc_seq<|rg<|mv O O O<|lss O O O O<|wt ?_
 refine wc_if O (fun hc1 =>?_) (fun hc1 =>?_)
 ·try simp only [SB] at hc1
  refine wc_skip<|wt<|wc_seq<|wc_block<|wc_region<|mv O O O<|addi (by omega) (by omega) O O O O<|mv O O O<|ian k k un166 sz5 O O O O (by omega) (by omega) (by omega)<|lo 0 sc5 hS O O O O (BV_get _ k (by omega))<|ian (4 + k) ((4 + k)) un173 sz5 O O O O (by omega) (by omega) (by omega)<|st 1 sz5 hS O O O O O O (by rw [BV_size]; omega) (BV_set _ _ (gv (headV d s) k : UInt8)) fun w hS =>?_
  refine q_block_norm<|wt<|wc_region<|mv O O O<|addi (by omega) (by omega) O O O O<|asg O O O ?_
  refine again_q (k + 1) ⟨O, O, O, lkI O (by first | omega | rfl), trivial⟩ ⟨by omega, hS⟩ (by omega)
 ·try simp only [SB] at hc1
  refine wc_exit<|q_then_exit<|q_then_exit<|q_block_hit<|wt<|rg<|la 1 ag173 hS O O O O (BV_size _)<|sa 2 ag173 hS O O O (BV_one _) O (BV_size _) (BV_size _) fun w hS =>wt<|wc_ret<|fin1 (v := .agg (BV (mkS (headV d s) k))) O ⟨_, O, lv_a ag173 (hS.get 2 O) (BV_size _)⟩ ?_
  refine ⟨?_, hS.drop⟩
  have hk4 : k = 8 := by omega
  rw [hk4, mk_eq]
theorem sp_mooringref17_Encode (key : V8 16) (dp : Int) (sp : UInt64) (tp ep : UInt16) (ap : Option Addr) (np capp : Nat) (bsp : List UInt8) (w0 : World) (hnp : bsp.length = np) (hNp : np ≤ 1000000) (hep : Cel w0 ap (c8 bsp)) (hcp : np ≤ capp) (hk : chk dp sp np = 0) : Calls Tryz.prog 66 #[.agg (BV (expand key) ++ BV sboxV), .agg #[I dp, U64 sp, U16 tp, U16 ep, .slice ap np capp]] w0 (RetS w0 (fun v X => ∃ a' c', v = .slice a' (np + 28) c' ∧ Own 1 a' (np + 28) c' (c8 (encP key dp sp tp ep bsp)) X)) := by
 refine enter (args := [.agg (BV (expand key) ++ BV sboxV), .agg #[I dp, U64 sp, U16 tp, U16 ep, .slice ap np capp]]) Tryz.func66 O O<|startw fun w hS =>?_
 obtain ⟨⟨dn, hdn, hd1⟩, hs63, hn12⟩ := chk_0 hk
 refine rg<|bxa hS O O O fun b2 w hb2 hS =>bxa hS O O O fun b3 w hb3 hS =>asg O O O<|wt<|rg<|fan 2 2 un100 O sz36 (by decide) O O O O (by omega)<|lo 0 sc36 hS O O O O O<|quo16 (q := (256 : UInt16)) (by decide) O O O O<|cvu8 un5 ⟨_, un36⟩ O O O<|fan 2 2 un100 O sz36 (by decide) O O O O (by omega)<|lo 0 sc36 hS O O O O O ?_
 refine rem16 (q := (256 : UInt16)) (by decide) O O O O<|cvu8 un5 ⟨_, un36⟩ O O O<|fan 3 3 un100 O sz36 (by decide) O O O O (by omega)<|lo 0 sc36 hS O O O O O<|quo16 (q := (256 : UInt16)) (by decide) O O O O<|cvu8 un5 ⟨_, un36⟩ O O O<|fan 3 3 un100 O sz36 (by decide) O O O O (by omega)<|lo 0 sc36 hS O O O O O<|rem16 (q := (256 : UInt16)) (by decide) O O O O<|cvu8 un5 ⟨_, un36⟩ O O O<|bsl (cs := #[U8 (toU8 (((tp / 256).toNat : Int))), U8 (toU8 (((tp % 256).toNat : Int))), U8 (toU8 (((ep / 256).toNat : Int))), U8 (toU8 (((ep % 256).toNat : Int)))]) sl30 hS O O O O (by kernel_rfl) fun b23 w hb23 hS =>asg O O O ?_
 refine wt<|rg<|mv O O O<|fan 4 4 un100 O sz30 (by decide) O O O O (by omega)<|lo 1 sc30 hS O O O O O<|app (A := [(b3, .cells (#[I (dp), U64 (sp), U16 (tp), U16 (ep), .slice ap np capp]) 100), (b2, .cells (BV (expand key) ++ BV sboxV) 45)]) (X := [(b23, .cells (#[U8 (toU8 (((tp / 256).toNat : Int))), U8 (toU8 (((tp % 256).toNat : Int))), U8 (toU8 (((ep / 256).toNat : Int))), U8 (toU8 (((ep % 256).toNat : Int)))]) 5)]) (R := []) sl30 (Own.blk (n := 4) O (by decide)) ((hS.napp).toend 0 O) O O O O (src8 un30 _ (hep.st hS) (by first | rfl | omega | (simp; omega) | (simp; done))) (by omega) (by omega) fun a27 c27 X27 w hO27 hS =>?_
 have hO27 : Own _ a27 (4 + np) c27 (c8 (([toU8 (((tp / 256).toNat : Int)), toU8 (((tp % 256).toNat : Int)), toU8 (((ep / 256).toNat : Int)), toU8 (((ep % 256).toNat : Int))]) ++ bsp)) X27 := hO27
 have hle27 := hO27.le
 rw [tm_bytes] at hO27
 refine asg O O O<|wt<|rg<|fan 0 0 un100 O sz3 (by decide) O O O O (by omega)<|lo 0 sc3 hS O O O O O<|fan 1 1 un100 O sz24 (by decide) O O O O (by omega)<|lo 0 sc24 hS O O O O O<|cv cf100 hS O O O O O (sp_mooringref15_Head dn sp _ _ (by omega) (by omega) (by assumption)) fun w hS =>ala zr166 hS O O fun b6 w hb6 hS =>sa 0 ag166 hS O O O (BV_one _) O (BV_size _) (BV_size _) fun w hS =>wt<|rd mo 10 (fun w =>St w0 [] [(b3, .cells (#[I (dp), U64 (sp), U16 (tp), U16 (ep), .slice ap np capp]) 100), (b2, .cells (BV (expand key) ++ BV sboxV) 45)] w) ?_
 have hS := hS.drew
 refine jx (hS.sl 3 6) fun jj =>dx 0 O (by kernel_rfl) (fun w hS =>a_all un166 ⟨_, sz5⟩ O O O rr) jj<|dx 1 O (by kernel_rfl) (fun w hS =>la 1 ag45 hS O O O O (cat_size (a := 176) (b := 256) (BV_size _) (BV_size _)) rr) jj<|dx 2 O (by kernel_rfl) (fun w hS =>fan 0 0 un100 O sz3 (by decide) O O O O (by omega) rr) jj<|dx 3 O (by kernel_rfl) (fun w hS =>lo 0 sc3 hS O O O O O rr) jj<|dx 4 O (by kernel_rfl) (fun w hS =>fan 1 1 un100 O sz24 (by decide) O O O O (by omega) rr) jj<|dx 5 O (by kernel_rfl) (fun w hS =>lo 0 sc24 hS O O O O O rr) jj<|dx 7 O (by kernel_rfl) (fun w hS =>mv O O O rr) jj ?_
 refine dl 6 O (by kernel_rfl)<|cv cf96 hS O O O O O (sp_mooringref15_Make dn sp _ _ (by omega) (by omega) (by assumption)) fun w hS =>lx (hS.sl 3 6) fun jj =>?_
 refine dl 8 O (by kernel_rfl)<|cs cf101 hS O O O O O (sp_mooringref12_Seal key ((nonceV (headV dn sp))) a27 ((4 + np)) c27 ((bytesL (tmV tp ep) 4 ++ bsp)) none 0 0 (([])) _ hO27.len8 (by omega) (hO27.cel hS (fun p hp =>by simp [hp])) (by omega) (by omega) O (by omega) (Cel.nil _ _) (by omega) (by omega)) ?_
 rintro _ X41 w ⟨a41, c41, rfl, hO41⟩ hS
 have hS := St.tailin (X := X41) hS [(b6, .cells (BV (headV dn sp)) 166), (b3, .cells (#[I (dp), U64 (sp), U16 (tp), U16 (ep), .slice ap np capp]) 100), (b2, .cells (BV (expand key) ++ BV sboxV) 45)] (X27 ++ []) rfl
 refine lx (hS.sl 3 6) fun jj =>?_
 refine dl 9 O (by kernel_rfl)<|app (A := [(b3, .cells (#[I (dp), U64 (sp), U16 (tp), U16 (ep), .slice ap np capp]) 100), (b2, .cells (BV (expand key) ++ BV sboxV) 45)]) (X := [(b6, .cells (BV (headV dn sp)) 166)]) (R := (X41 ++ (X27 ++ []))) sl30 (Own.blk (BV_size _) (by decide)) (St.toend (A := [(b6, .cells (BV (headV dn sp)) 166), (b3, .cells (#[I (dp), U64 (sp), U16 (tp), U16 (ep), .slice ap np capp]) 100), (b2, .cells (BV (expand key) ++ BV sboxV) 45)]) (R := (X41 ++ (X27 ++ []))) hS 0 O) O O O O (src8 un30 _ (hO41.cel hS (fun p hp =>by simp [hp])) hO41.len8) (by omega) (by omega) fun a42 c42 X42 w hO42 hS =>?_
 rw [BV_toList, c8_app] at hO42
 refine lx (hS.sl 2 3) fun jj =>?_
 refine dl 10 O (by kernel_rfl)<|asg O O O<|ly O<|de (by kernel_rfl)<|wt<|wc_ret<|fin1 (v := .slice a42 (8 + ((4 + np) + 16)) c42) O O ?_
 have e28 : 8 + (4 + np + 16) = np + 28 := by omega
 rw [e28] at hO42
 exact ⟨_, X42, rfl, ⟨_, _, by rw [e28], enc_ok hnp hk hdn hO42⟩, hS.sublist (.cons _ (.cons _ (List.sublist_append_left X42 (X41 ++ (X27 ++ [])))))⟩
theorem sp_mooringref16_Of (x : UInt64) (w0 : World) : Calls Tryz.prog 62 #[U64 x] w0 (Ret w0 (I (((ofT x).toNat : Nat) : Int))) := by
 refine enter (args := [U64 x]) Tryz.func62 O O<|startw fun w hS =>?_
 have hm := of_mod x
 have hlt := (ofT x).toNat_lt
 refine rg<|asg O O O<|wt<|rg<|mv O O O<|rem64 (q := (65536 : UInt64)) (by decide) O O O O<|cvi un3 ⟨_, un24⟩ (by omega) (by omega) O O O<|asg O O O<|wt<|wc_ret<|fin1 (v := I (((x % 65536).toNat : Int))) O O ?_
 refine ⟨?_, hS.drop⟩
 rw [of_mod]
theorem sp_mooringref18_Peek (f g : UInt64) (w0 : World) : Calls Tryz.prog 64 #[.agg #[U64 f, U64 g, .bool false]] w0 (Ret w0 (.tuple #[U64 (if f + g = 9223372036854775807 then 0 else f + g), I (((if f + g = 9223372036854775807 then 6 else 0) : Nat) : Int)])) := by
 refine enter (args := [.agg #[U64 f, U64 g, .bool false]]) Tryz.func64 O O<|startw fun w hS =>rg<|bxa hS O O O fun b1 w hb1 hS =>asg O O O<|asg O O O<|wt<|wc_seq<|rg<|fan 2 2 un47 O sz4 (by decide) O O O O (by omega)<|lo 0 sc4 hS O O O O O<|wt ?_
 refine wc_if_f O<|wc_skip<|wt<|wc_seq<|rg<|fan 0 0 un47 O sz24 (by decide) O O O O (by omega)<|lo 0 sc24 hS O O O O O<|fan 1 1 un47 O sz24 (by decide) O O O O (by omega)<|lo 0 sc24 hS O O O O O<|add64 O O O O<|eqi O O O O<|wt ?_
 refine wc_if O (fun hc1 =>?_) (fun hc1 =>?_)
 ·try simp only [SB] at hc1
  have he : f + g = 9223372036854775807 := UInt64.toNat_inj.1 (by simp only [UInt64.reduceToNat]; omega)
  refine rg<|asg O O O<|asg O O O<|wt<|wc_ret<|q_then_ret<|fin2 (v := U64 0) (u := I 6) O O O ?_
  refine ⟨?_, hS.drop⟩
  first | (rw [if_pos he, if_pos he]; rfl) | (rw [if_neg he, if_neg he]; rfl)
 ·try simp only [SB] at hc1
  have he : ¬ f + g = 9223372036854775807 := fun e => by rw [e] at hc1; exact absurd hc1 (by decide)
  refine wc_skip<|wt<|rg<|fan 0 0 un47 O sz24 (by decide) O O O O (by omega)<|lo 0 sc24 hS O O O O O<|fan 1 1 un47 O sz24 (by decide) O O O O (by omega)<|lo 0 sc24 hS O O O O O<|add64 O O O O<|asg O O O<|asg O O O<|wt<|wc_ret ?_
  refine fin2 (v := U64 (f + g)) (u := I 0) O O O ?_
  refine ⟨?_, hS.drop⟩
  first | (rw [if_pos he, if_pos he]; rfl) | (rw [if_neg he, if_neg he]; rfl)
theorem sp_mooringref16_Echo (q : Nat) (s : UInt16) (h : UInt64) (q_ : Int) (w0 : World) (hq_ : q_ = (q : Int)) (hq : q = s.toNat) : Calls Tryz.prog 98 #[I q_, U64 h] w0 (Ret w0 (I (((echoN s h).toNat : Nat) : Int))) := by
 subst hq_
 refine enter (args := [I (q : Int), U64 h]) Tryz.func98 O O<|startw fun w hS =>?_
 have hlt := s.toNat_lt
 refine rg<|asg O O O<|wt<|wc_seq<|rg<|mv O O O<|gtr O O O O<|wt ?_
 refine wc_if O (fun hc1 =>?_) (fun hc1 =>?_)
 ·try simp only [SB] at hc1
  refine rg<|asg O O O<|wt<|wc_ret<|q_then_ret<|fin1 (v := I 65535) O O ?_
  refine ⟨?_, hS.drop⟩
  rw [echoN_nat]
  first | (rw [if_pos (by omega)]; rfl) | (rw [if_neg (by omega)]; congr 2; omega)
 ·try simp only [SB] at hc1
  refine wc_skip<|wt<|rg<|mv O O O<|mv O O O<|cvi un3 ⟨_, un24⟩ (by omega) (by omega) O O O<|addi (by omega) (by omega) O O O O<|remi (by omega) (by omega) O O O O<|asg O O O<|wt<|wc_ret<|fin1 (v := I (((q : Int) + ((h).toNat : Int)) % 65536)) O O ?_
  refine ⟨?_, hS.drop⟩
  rw [echoN_nat]
  first | (rw [if_pos (by omega)]; rfl) | (rw [if_neg (by omega)]; congr 2; omega)
theorem sp_mooringref20_Held (q : Bool) (s : Int) (t x : UInt64) (w0 : World) : Calls Tryz.prog 99 #[.agg #[.bool q, I s, U64 t], U64 x] w0 (Ret w0 (U64 (heldV t x))) := by
 refine enter (args := [.agg #[.bool q, I s, U64 t], U64 x]) Tryz.func99 O O<|startw fun w hS =>rg<|bxa hS O O O fun b2 w hb2 hS =>asg O O O<|wt<|wc_seq<|rg<|mv O O O<|fan 2 2 un50 O sz24 (by decide) O O O O (by omega)<|lo 0 sc24 hS O O O O O<|gtr O O O O ?_
 refine wt ?_
 refine wc_if O (fun hc1 =>?_) (fun hc1 =>?_)
 ·try simp only [SB] at hc1
  refine rg<|mv O O O<|fan 2 2 un50 O sz24 (by decide) O O O O (by omega)<|lo 0 sc24 hS O O O O O<|sub64 O O O O<|asg O O O<|wt<|wc_ret<|q_then_ret<|fin1 (v := U64 (x - t)) O O ?_
  refine ⟨?_, hS.drop⟩
  first | (rw [heldV, if_neg (by omega)]) | (rw [heldV]; by_cases h : x.toNat < t.toNat; (rw [if_pos h]); (rw [if_neg h, show x = t from UInt64.toNat_inj.1 (by omega)]; simp))
 ·try simp only [SB] at hc1
  refine wc_skip<|wt<|rg<|asg O O O<|wt<|wc_ret<|fin1 (v := U64 0) O O ?_
  refine ⟨?_, hS.drop⟩
  first | (rw [heldV, if_neg (by omega)]) | (rw [heldV]; by_cases h : x.toNat < t.toNat; (rw [if_pos h]); (rw [if_neg h, show x = t from UInt64.toNat_inj.1 (by omega)]; simp))
theorem sp_mooringref20_Reply (kp : Option (UInt16 × UInt64)) (x : UInt64) (w0 : World) : Calls Tryz.prog 65 #[.agg #[.bool kp.isSome, I ((kpS kp : Nat) : Int), U64 (kpT kp)], U64 x] w0 (Ret w0 (I (((replyV kp x).toNat : Nat) : Int))) := by
 refine enter (args := [.agg #[.bool kp.isSome, I ((kpS kp : Nat) : Int), U64 (kpT kp)], U64 x]) Tryz.func65 O O<|startw fun w hS =>rg<|bxa hS O O O fun b2 w hb2 hS =>asg O O O<|wt<|wc_seq<|rg<|fan 0 0 un50 O sz4 (by decide) O O O O (by omega)<|lo 0 sc4 hS O O O O O<|notb O O O<|wt ?_
 refine wc_if O (fun hc1 =>?_) (fun hc1 =>?_)
 ·try simp only [SB] at hc1
  have hk0 : kp = none := by cases kp; rfl; simp at hc1
  refine rg<|asg O O O<|wt<|wc_ret<|q_then_ret<|fin1 (v := I 65535) O O ?_
  refine ⟨?_, hS.drop⟩
  rw [hk0]; rfl
 ·try simp only [SB] at hc1
  obtain ⟨⟨s, t⟩, hk0⟩ := Option.isSome_iff_exists.1 (by simpa using hc1 : kp.isSome = true)
  have hks : kpS kp = s.toNat := by rw [hk0]; rfl
  refine wc_skip<|wt<|rd mo 6 (fun w =>St w0 [] [(b2, .cells (#[.bool (kp.isSome), I ((((kpS kp) : Nat) : Int)), U64 (kpT kp)]) 50)] w)<|have hS := hS.drew; jx (hS.sl 1 1) fun jj =>dx 0 O (by kernel_rfl) (fun w hS =>fan 1 1 un50 O sz3 (by decide) O O O O (by omega) rr) jj<|dx 1 O (by kernel_rfl) (fun w hS =>lo 0 sc3 hS O O O O O rr) jj<|dx 2 O (by kernel_rfl) (fun w hS =>la 0 ag50 hS O O O O O rr) jj<|dx 3 O (by kernel_rfl) (fun w hS =>mv O O O rr) jj ?_
  refine dl 4 O (by kernel_rfl)<|cv cf99 hS O O O O O (sp_mooringref20_Held _ _ ((kpT kp)) x _) fun w hS =>lx (hS.sl 1 1) fun jj =>?_
  refine dl 5 O (by kernel_rfl)<|cv cf98 hS O O O O O (sp_mooringref16_Echo ((kpS kp)) s ((heldV (kpT kp) x)) _ _ (by omega) (by omega)) fun w hS =>lx (hS.sl 1 1) fun jj =>?_
  refine dl 6 O (by kernel_rfl)<|asg O O O<|ly O<|de (by kernel_rfl)<|wt<|wc_ret<|fin1 (v := I ((((echoN s (heldV (kpT kp) x)).toNat : Nat) : Int))) O O ?_
  refine ⟨?_, hS.drop⟩
  rw [hk0]; rfl
theorem sp_mooringref22_Send (m : RS) (a1 : Option Addr) (n1 c1 : Nat) (a2 : Option Addr) (n2 c2 : Nat) (a : Option Addr) (n cap : Nat) (bs : List UInt8) (x : UInt64) (w0 : World) (hn : bs.length = n) (hN : n ≤ 1000000) (hcap : n ≤ cap) (hc : Cel w0 a (c8 bs)) (hd1 : m.dir ≤ 1) (hle : (m.fs + m.gv).toNat ≤ 9223372036854775807) : Calls Tryz.prog 17 #[.agg (BV (expand m.key) ++ (BV sboxV ++ #[I (((m.dir : Nat) : Int)), U64 (m.fs), U64 (m.gv), .bool (false), .slice a1 n1 c1, I (((m.rf : Nat) : Int)), .bool (m.kp.isSome), I ((((kpS m.kp) : Nat) : Int)), U64 (kpT m.kp), .slice a2 n2 c2, Str m.ad, I (((m.mv : Nat) : Int)), .bool (m.cz)])), .slice a n cap, U64 x] w0 (RetS w0 (fun v Y => ∃ a' n' c', v = .tuple #[.agg (refC (rsnM m n) a1 n1 c1 a2 n2 c2), .slice a' n' c', Str (rsnA m n), I ((rsnE m n : Nat) : Int)] ∧ Gives a' n' c' (rsnB m bs x) Y)) := by
 refine enter Tryz.func17 O O<|startw fun w hS =>rg<|bxa hS O O O fun b3 w hb3 hS =>ala zr53 hS O O fun b6 w hb6 hS =>asg O O O<|asg O O O<|asg O O O<|wt<|rg<|fan 433 433 un53 O sz47 (by decide) O O O O (by omega)<|lp (u := .agg (#[U64 (m.fs), U64 (m.gv), .bool (false)])) 1 ag47 hS O O O O (le_sz (a := 445) (cat_size (a := 176) (b := 269) (BV_size _) (cat_size (a := 256) (b := 13) (BV_size _) O)) (by omega)) (cat_xr (a := 176) (o' := 257) (BV_size _) (by omega) (cat_xr (a := 256) (o' := 1) (BV_size _) (by omega) O)) O ?_
 refine cv cf64 hS O O O O O (sp_mooringref18_Peek m.fs m.gv _) fun w hS =>mv O O O<|ext O O O O<|ext O O O O<|asg O O O<|asg O O O<|wt<|wc_seq<|rg<|fan 442 442 un53 O sz9 (by decide) O O O O (by omega)<|lo 1 sc9 hS O O O O (cat_r (a := 176) (o' := 266) (BV_size _) (by omega) (cat_r (a := 256) (o' := 10) (BV_size _) (by omega) O))<|eqs O O O O ?_
 refine wt ?_
 refine wc_if O (fun hc1 =>?_) (fun hc1 =>?_)
 ·try simp only [SB] at hc1
  have hA : m.ad = [] := by simpa using hc1
  refine wc_region<|asg O O O<|wt<|wc_seq<|rg<|mv O O O<|lens un30 O O O<|gtr O O O O<|wt ?_
  refine wc_if O (fun hc2 =>?_) (fun hc2 =>?_)
  ·try simp only [SB] at hc2
   have hL : 1200 < n := by omega
   refine wc_region<|asg O O O<|wt<|wc_seq<|rg<|fan 444 444 un53 O sz4 (by decide) O O O O (by omega)<|lo 1 sc4 hS O O O O (cat_r (a := 176) (o' := 268) (BV_size _) (by omega) (cat_r (a := 256) (o' := 12) (BV_size _) (by omega) O))<|wt ?_
   refine wc_if O (fun hc3 =>?_) (fun hc3 =>?_)
   ·try simp only [SB] at hc3
    have hcz : m.cz = true := hc3
    refine wc_region<|asg O O O<|wt<|wc_seq<|rg<|mv O O O<|nei O O O O<|wt<|wc_if_t O<|rg<|la 1 ag53 hS O O O O (cat_size (a := 176) (b := 269) (BV_size _) (cat_size (a := 256) (b := 13) (BV_size _) O))<|mv O O O ?_
    refine sa 0 ag53 hS O O O (cat_one (BV_one _) (cat_one (BV_one _) (by kernel_rfl))) O (cat_size (a := 176) (b := 269) (BV_size _) (cat_size (a := 256) (b := 13) (BV_size _) O)) (cat_size (a := 176) (b := 269) (BV_size _) (cat_size (a := 256) (b := 13) (BV_size _) O)) fun w hS =>asg O O O<|asg O O O<|asg O O O<|wt<|wc_ret<|q_then_ret<|fin4 (v := .agg (BV (expand m.key) ++ (BV sboxV ++ #[I (((m.dir : Nat) : Int)), U64 (m.fs), U64 (m.gv), .bool (false), .slice a1 n1 c1, I (((m.rf : Nat) : Int)), .bool (m.kp.isSome), I ((((kpS m.kp) : Nat) : Int)), U64 (kpT m.kp), .slice a2 n2 c2, Str m.ad, I (((m.mv : Nat) : Int)), .bool (m.cz)]))) (u := (.slice none 0 0)) (x := Str ([])) (y := I 7) O ⟨_, O, lv_a ag53 (hS.get 0 O) (cat_size (a := 176) (b := 269) (BV_size _) (cat_size (a := 256) (b := 13) (BV_size _) O))⟩ O O O ?_
    have eE : rsnE m n = 7 := by first | rw [rsnE, if_pos hcz] | rw [rsnE, if_neg hcz, if_pos hL] | rw [rsnE, if_neg hcz, if_neg hL, if_pos hA] | (rw [rsnE, if_neg hcz, if_neg hL, if_neg hA]; rfl)
    have hE2 : ¬ rsnE m n = 0 := by rw [eE]; first | decide | (rw [if_pos hP]; decide)
    have eM : rsnM m n = m := if_neg hE2
    have eA : rsnA m n = [] := if_neg hE2
    have eB : rsnB m bs x = [] := by rw [rsnB, hn, if_neg hE2]
    exact ⟨_, [], rfl, ⟨none, 0, 0, by rw [eM, eA, eE]; rfl, by rw [eB]; exact Gives.nil⟩, hS.drop⟩
   ·try simp only [SB] at hc3
    have hcz : ¬ m.cz = true := by simp [hc3]
    refine wc_skip<|wt<|wc_seq<|rg<|mv O O O<|nei O O O O<|wt<|wc_if_t O<|rg<|la 1 ag53 hS O O O O (cat_size (a := 176) (b := 269) (BV_size _) (cat_size (a := 256) (b := 13) (BV_size _) O))<|mv O O O<|sa 0 ag53 hS O O O (cat_one (BV_one _) (cat_one (BV_one _) (by kernel_rfl))) O (cat_size (a := 176) (b := 269) (BV_size _) (cat_size (a := 256) (b := 13) (BV_size _) O)) (cat_size (a := 176) (b := 269) (BV_size _) (cat_size (a := 256) (b := 13) (BV_size _) O)) fun w hS =>?_
    refine asg O O O<|asg O O O<|asg O O O<|wt<|wc_ret<|q_then_ret<|fin4 (v := .agg (BV (expand m.key) ++ (BV sboxV ++ #[I (((m.dir : Nat) : Int)), U64 (m.fs), U64 (m.gv), .bool (false), .slice a1 n1 c1, I (((m.rf : Nat) : Int)), .bool (m.kp.isSome), I ((((kpS m.kp) : Nat) : Int)), U64 (kpT m.kp), .slice a2 n2 c2, Str m.ad, I (((m.mv : Nat) : Int)), .bool (m.cz)]))) (u := (.slice none 0 0)) (x := Str ([])) (y := I 2) O ⟨_, O, lv_a ag53 (hS.get 0 O) (cat_size (a := 176) (b := 269) (BV_size _) (cat_size (a := 256) (b := 13) (BV_size _) O))⟩ O O O ?_
    have eE : rsnE m n = 2 := by first | rw [rsnE, if_pos hcz] | rw [rsnE, if_neg hcz, if_pos hL] | rw [rsnE, if_neg hcz, if_neg hL, if_pos hA] | (rw [rsnE, if_neg hcz, if_neg hL, if_neg hA]; rfl)
    have hE2 : ¬ rsnE m n = 0 := by rw [eE]; first | decide | (rw [if_pos hP]; decide)
    have eM : rsnM m n = m := if_neg hE2
    have eA : rsnA m n = [] := if_neg hE2
    have eB : rsnB m bs x = [] := by rw [rsnB, hn, if_neg hE2]
    exact ⟨_, [], rfl, ⟨none, 0, 0, by rw [eM, eA, eE]; rfl, by rw [eB]; exact Gives.nil⟩, hS.drop⟩
  ·try simp only [SB] at hc2
   have hL : ¬ 1200 < n := by omega
   refine wc_skip<|wt<|wc_seq<|rg<|fan 444 444 un53 O sz4 (by decide) O O O O (by omega)<|lo 1 sc4 hS O O O O (cat_r (a := 176) (o' := 268) (BV_size _) (by omega) (cat_r (a := 256) (o' := 12) (BV_size _) (by omega) O))<|wt ?_
   refine wc_if O (fun hc4 =>?_) (fun hc4 =>?_)
   ·try simp only [SB] at hc4
    have hcz : m.cz = true := hc4
    refine wc_region<|asg O O O<|wt<|wc_seq<|rg<|mv O O O<|nei O O O O<|wt<|wc_if_t O<|rg<|la 1 ag53 hS O O O O (cat_size (a := 176) (b := 269) (BV_size _) (cat_size (a := 256) (b := 13) (BV_size _) O))<|mv O O O ?_
    refine sa 0 ag53 hS O O O (cat_one (BV_one _) (cat_one (BV_one _) (by kernel_rfl))) O (cat_size (a := 176) (b := 269) (BV_size _) (cat_size (a := 256) (b := 13) (BV_size _) O)) (cat_size (a := 176) (b := 269) (BV_size _) (cat_size (a := 256) (b := 13) (BV_size _) O)) fun w hS =>asg O O O<|asg O O O<|asg O O O<|wt<|wc_ret<|q_then_ret<|fin4 (v := .agg (BV (expand m.key) ++ (BV sboxV ++ #[I (((m.dir : Nat) : Int)), U64 (m.fs), U64 (m.gv), .bool (false), .slice a1 n1 c1, I (((m.rf : Nat) : Int)), .bool (m.kp.isSome), I ((((kpS m.kp) : Nat) : Int)), U64 (kpT m.kp), .slice a2 n2 c2, Str m.ad, I (((m.mv : Nat) : Int)), .bool (m.cz)]))) (u := (.slice none 0 0)) (x := Str ([])) (y := I 7) O ⟨_, O, lv_a ag53 (hS.get 0 O) (cat_size (a := 176) (b := 269) (BV_size _) (cat_size (a := 256) (b := 13) (BV_size _) O))⟩ O O O ?_
    have eE : rsnE m n = 7 := by first | rw [rsnE, if_pos hcz] | rw [rsnE, if_neg hcz, if_pos hL] | rw [rsnE, if_neg hcz, if_neg hL, if_pos hA] | (rw [rsnE, if_neg hcz, if_neg hL, if_neg hA]; rfl)
    have hE2 : ¬ rsnE m n = 0 := by rw [eE]; first | decide | (rw [if_pos hP]; decide)
    have eM : rsnM m n = m := if_neg hE2
    have eA : rsnA m n = [] := if_neg hE2
    have eB : rsnB m bs x = [] := by rw [rsnB, hn, if_neg hE2]
    exact ⟨_, [], rfl, ⟨none, 0, 0, by rw [eM, eA, eE]; rfl, by rw [eB]; exact Gives.nil⟩, hS.drop⟩
   ·try simp only [SB] at hc4
    have hcz : ¬ m.cz = true := by simp [hc4]
    refine wc_skip<|wt<|wc_seq<|rg<|mv O O O<|nei O O O O<|wt<|wc_if_t O<|rg<|la 1 ag53 hS O O O O (cat_size (a := 176) (b := 269) (BV_size _) (cat_size (a := 256) (b := 13) (BV_size _) O))<|mv O O O<|sa 0 ag53 hS O O O (cat_one (BV_one _) (cat_one (BV_one _) (by kernel_rfl))) O (cat_size (a := 176) (b := 269) (BV_size _) (cat_size (a := 256) (b := 13) (BV_size _) O)) (cat_size (a := 176) (b := 269) (BV_size _) (cat_size (a := 256) (b := 13) (BV_size _) O)) fun w hS =>?_
    refine asg O O O<|asg O O O<|asg O O O<|wt<|wc_ret<|q_then_ret<|fin4 (v := .agg (BV (expand m.key) ++ (BV sboxV ++ #[I (((m.dir : Nat) : Int)), U64 (m.fs), U64 (m.gv), .bool (false), .slice a1 n1 c1, I (((m.rf : Nat) : Int)), .bool (m.kp.isSome), I ((((kpS m.kp) : Nat) : Int)), U64 (kpT m.kp), .slice a2 n2 c2, Str m.ad, I (((m.mv : Nat) : Int)), .bool (m.cz)]))) (u := (.slice none 0 0)) (x := Str ([])) (y := I 12) O ⟨_, O, lv_a ag53 (hS.get 0 O) (cat_size (a := 176) (b := 269) (BV_size _) (cat_size (a := 256) (b := 13) (BV_size _) O))⟩ O O O ?_
    have eE : rsnE m n = 12 := by first | rw [rsnE, if_pos hcz] | rw [rsnE, if_neg hcz, if_pos hL] | rw [rsnE, if_neg hcz, if_neg hL, if_pos hA] | (rw [rsnE, if_neg hcz, if_neg hL, if_neg hA]; rfl)
    have hE2 : ¬ rsnE m n = 0 := by rw [eE]; first | decide | (rw [if_pos hP]; decide)
    have eM : rsnM m n = m := if_neg hE2
    have eA : rsnA m n = [] := if_neg hE2
    have eB : rsnB m bs x = [] := by rw [rsnB, hn, if_neg hE2]
    exact ⟨_, [], rfl, ⟨none, 0, 0, by rw [eM, eA, eE]; rfl, by rw [eB]; exact Gives.nil⟩, hS.drop⟩
 ·try simp only [SB] at hc1
  have hA : ¬ m.ad = [] := by simpa using hc1
  refine wc_skip<|wt<|wc_seq<|rg<|mv O O O<|lens un30 O O O<|gtr O O O O<|wt ?_
  refine wc_if O (fun hc5 =>?_) (fun hc5 =>?_)
  ·try simp only [SB] at hc5
   have hL : 1200 < n := by omega
   refine wc_region<|asg O O O<|wt<|wc_seq<|rg<|fan 444 444 un53 O sz4 (by decide) O O O O (by omega)<|lo 1 sc4 hS O O O O (cat_r (a := 176) (o' := 268) (BV_size _) (by omega) (cat_r (a := 256) (o' := 12) (BV_size _) (by omega) O))<|wt ?_
   refine wc_if O (fun hc6 =>?_) (fun hc6 =>?_)
   ·try simp only [SB] at hc6
    have hcz : m.cz = true := hc6
    refine wc_region<|asg O O O<|wt<|wc_seq<|rg<|mv O O O<|nei O O O O<|wt<|wc_if_t O<|rg<|la 1 ag53 hS O O O O (cat_size (a := 176) (b := 269) (BV_size _) (cat_size (a := 256) (b := 13) (BV_size _) O))<|mv O O O ?_
    refine sa 0 ag53 hS O O O (cat_one (BV_one _) (cat_one (BV_one _) (by kernel_rfl))) O (cat_size (a := 176) (b := 269) (BV_size _) (cat_size (a := 256) (b := 13) (BV_size _) O)) (cat_size (a := 176) (b := 269) (BV_size _) (cat_size (a := 256) (b := 13) (BV_size _) O)) fun w hS =>asg O O O<|asg O O O<|asg O O O<|wt<|wc_ret<|q_then_ret<|fin4 (v := .agg (BV (expand m.key) ++ (BV sboxV ++ #[I (((m.dir : Nat) : Int)), U64 (m.fs), U64 (m.gv), .bool (false), .slice a1 n1 c1, I (((m.rf : Nat) : Int)), .bool (m.kp.isSome), I ((((kpS m.kp) : Nat) : Int)), U64 (kpT m.kp), .slice a2 n2 c2, Str m.ad, I (((m.mv : Nat) : Int)), .bool (m.cz)]))) (u := (.slice none 0 0)) (x := Str ([])) (y := I 7) O ⟨_, O, lv_a ag53 (hS.get 0 O) (cat_size (a := 176) (b := 269) (BV_size _) (cat_size (a := 256) (b := 13) (BV_size _) O))⟩ O O O ?_
    have eE : rsnE m n = 7 := by first | rw [rsnE, if_pos hcz] | rw [rsnE, if_neg hcz, if_pos hL] | rw [rsnE, if_neg hcz, if_neg hL, if_pos hA] | (rw [rsnE, if_neg hcz, if_neg hL, if_neg hA]; rfl)
    have hE2 : ¬ rsnE m n = 0 := by rw [eE]; first | decide | (rw [if_pos hP]; decide)
    have eM : rsnM m n = m := if_neg hE2
    have eA : rsnA m n = [] := if_neg hE2
    have eB : rsnB m bs x = [] := by rw [rsnB, hn, if_neg hE2]
    exact ⟨_, [], rfl, ⟨none, 0, 0, by rw [eM, eA, eE]; rfl, by rw [eB]; exact Gives.nil⟩, hS.drop⟩
   ·try simp only [SB] at hc6
    have hcz : ¬ m.cz = true := by simp [hc6]
    refine wc_skip<|wt<|wc_seq<|rg<|mv O O O<|nei O O O O<|wt<|wc_if_t O<|rg<|la 1 ag53 hS O O O O (cat_size (a := 176) (b := 269) (BV_size _) (cat_size (a := 256) (b := 13) (BV_size _) O))<|mv O O O<|sa 0 ag53 hS O O O (cat_one (BV_one _) (cat_one (BV_one _) (by kernel_rfl))) O (cat_size (a := 176) (b := 269) (BV_size _) (cat_size (a := 256) (b := 13) (BV_size _) O)) (cat_size (a := 176) (b := 269) (BV_size _) (cat_size (a := 256) (b := 13) (BV_size _) O)) fun w hS =>?_
    refine asg O O O<|asg O O O<|asg O O O<|wt<|wc_ret<|q_then_ret<|fin4 (v := .agg (BV (expand m.key) ++ (BV sboxV ++ #[I (((m.dir : Nat) : Int)), U64 (m.fs), U64 (m.gv), .bool (false), .slice a1 n1 c1, I (((m.rf : Nat) : Int)), .bool (m.kp.isSome), I ((((kpS m.kp) : Nat) : Int)), U64 (kpT m.kp), .slice a2 n2 c2, Str m.ad, I (((m.mv : Nat) : Int)), .bool (m.cz)]))) (u := (.slice none 0 0)) (x := Str ([])) (y := I 2) O ⟨_, O, lv_a ag53 (hS.get 0 O) (cat_size (a := 176) (b := 269) (BV_size _) (cat_size (a := 256) (b := 13) (BV_size _) O))⟩ O O O ?_
    have eE : rsnE m n = 2 := by first | rw [rsnE, if_pos hcz] | rw [rsnE, if_neg hcz, if_pos hL] | rw [rsnE, if_neg hcz, if_neg hL, if_pos hA] | (rw [rsnE, if_neg hcz, if_neg hL, if_neg hA]; rfl)
    have hE2 : ¬ rsnE m n = 0 := by rw [eE]; first | decide | (rw [if_pos hP]; decide)
    have eM : rsnM m n = m := if_neg hE2
    have eA : rsnA m n = [] := if_neg hE2
    have eB : rsnB m bs x = [] := by rw [rsnB, hn, if_neg hE2]
    exact ⟨_, [], rfl, ⟨none, 0, 0, by rw [eM, eA, eE]; rfl, by rw [eB]; exact Gives.nil⟩, hS.drop⟩
  ·try simp only [SB] at hc5
   have hL : ¬ 1200 < n := by omega
   refine wc_skip<|wt<|wc_seq<|rg<|fan 444 444 un53 O sz4 (by decide) O O O O (by omega)<|lo 1 sc4 hS O O O O (cat_r (a := 176) (o' := 268) (BV_size _) (by omega) (cat_r (a := 256) (o' := 12) (BV_size _) (by omega) O))<|wt ?_
   refine wc_if O (fun hc7 =>?_) (fun hc7 =>?_)
   ·try simp only [SB] at hc7
    have hcz : m.cz = true := hc7
    refine wc_region<|asg O O O<|wt<|wc_seq<|rg<|mv O O O<|nei O O O O<|wt<|wc_if_t O<|rg<|la 1 ag53 hS O O O O (cat_size (a := 176) (b := 269) (BV_size _) (cat_size (a := 256) (b := 13) (BV_size _) O))<|mv O O O ?_
    refine sa 0 ag53 hS O O O (cat_one (BV_one _) (cat_one (BV_one _) (by kernel_rfl))) O (cat_size (a := 176) (b := 269) (BV_size _) (cat_size (a := 256) (b := 13) (BV_size _) O)) (cat_size (a := 176) (b := 269) (BV_size _) (cat_size (a := 256) (b := 13) (BV_size _) O)) fun w hS =>asg O O O<|asg O O O<|asg O O O<|wt<|wc_ret<|q_then_ret<|fin4 (v := .agg (BV (expand m.key) ++ (BV sboxV ++ #[I (((m.dir : Nat) : Int)), U64 (m.fs), U64 (m.gv), .bool (false), .slice a1 n1 c1, I (((m.rf : Nat) : Int)), .bool (m.kp.isSome), I ((((kpS m.kp) : Nat) : Int)), U64 (kpT m.kp), .slice a2 n2 c2, Str m.ad, I (((m.mv : Nat) : Int)), .bool (m.cz)]))) (u := (.slice none 0 0)) (x := Str ([])) (y := I 7) O ⟨_, O, lv_a ag53 (hS.get 0 O) (cat_size (a := 176) (b := 269) (BV_size _) (cat_size (a := 256) (b := 13) (BV_size _) O))⟩ O O O ?_
    have eE : rsnE m n = 7 := by first | rw [rsnE, if_pos hcz] | rw [rsnE, if_neg hcz, if_pos hL] | rw [rsnE, if_neg hcz, if_neg hL, if_pos hA] | (rw [rsnE, if_neg hcz, if_neg hL, if_neg hA]; rfl)
    have hE2 : ¬ rsnE m n = 0 := by rw [eE]; first | decide | (rw [if_pos hP]; decide)
    have eM : rsnM m n = m := if_neg hE2
    have eA : rsnA m n = [] := if_neg hE2
    have eB : rsnB m bs x = [] := by rw [rsnB, hn, if_neg hE2]
    exact ⟨_, [], rfl, ⟨none, 0, 0, by rw [eM, eA, eE]; rfl, by rw [eB]; exact Gives.nil⟩, hS.drop⟩
   ·try simp only [SB] at hc7
    have hcz : ¬ m.cz = true := by simp [hc7]
    refine wc_skip<|wt<|wc_seq<|rg<|mv O O O<|nei O O O O<|wt ?_
    refine wc_if O (fun hc8 =>?_) (fun hc8 =>?_)
    ·try simp only [SB] at hc8
     have hP : ¬ m.fs + m.gv = 9223372036854775807 → False := fun e => by rw [if_neg e] at hc8; simp at hc8
     have hP : m.fs + m.gv = 9223372036854775807 := Decidable.byContradiction hP
     refine rg<|la 1 ag53 hS O O O O (cat_size (a := 176) (b := 269) (BV_size _) (cat_size (a := 256) (b := 13) (BV_size _) O))<|mv O O O<|sa 0 ag53 hS O O O (cat_one (BV_one _) (cat_one (BV_one _) (by kernel_rfl))) O (cat_size (a := 176) (b := 269) (BV_size _) (cat_size (a := 256) (b := 13) (BV_size _) O)) (cat_size (a := 176) (b := 269) (BV_size _) (cat_size (a := 256) (b := 13) (BV_size _) O)) fun w hS =>asg O O O<|asg O O O<|asg O O O<|wt<|wc_ret<|q_then_ret<|fin4 (v := .agg (BV (expand m.key) ++ (BV sboxV ++ #[I (((m.dir : Nat) : Int)), U64 (m.fs), U64 (m.gv), .bool (false), .slice a1 n1 c1, I (((m.rf : Nat) : Int)), .bool (m.kp.isSome), I ((((kpS m.kp) : Nat) : Int)), U64 (kpT m.kp), .slice a2 n2 c2, Str m.ad, I (((m.mv : Nat) : Int)), .bool (m.cz)]))) (u := (.slice none 0 0)) (x := Str ([])) (y := I ((((if m.fs + m.gv = 9223372036854775807 then 6 else 0) : Nat) : Int))) O ⟨_, O, lv_a ag53 (hS.get 0 O) (cat_size (a := 176) (b := 269) (BV_size _) (cat_size (a := 256) (b := 13) (BV_size _) O))⟩ O O O ?_
     have eE : rsnE m n = (if m.fs + m.gv = 9223372036854775807 then 6 else 0) := by first | rw [rsnE, if_pos hcz] | rw [rsnE, if_neg hcz, if_pos hL] | rw [rsnE, if_neg hcz, if_neg hL, if_pos hA] | (rw [rsnE, if_neg hcz, if_neg hL, if_neg hA]; rfl)
     have hE2 : ¬ rsnE m n = 0 := by rw [eE]; first | decide | (rw [if_pos hP]; decide)
     have eM : rsnM m n = m := if_neg hE2
     have eA : rsnA m n = [] := if_neg hE2
     have eB : rsnB m bs x = [] := by rw [rsnB, hn, if_neg hE2]
     exact ⟨_, [], rfl, ⟨none, 0, 0, by rw [eM, eA, eE]; rfl, by rw [eB]; exact Gives.nil⟩, hS.drop⟩
    ·try simp only [SB] at hc8
     have hP : ¬ m.fs + m.gv = 9223372036854775807 := fun e => by rw [if_pos e] at hc8; simp at hc8
     have eS : (if m.fs + m.gv = 9223372036854775807 then 0 else m.fs + m.gv) = m.fs + m.gv := if_neg hP
     have hk : chk ((m.dir : Nat) : Int) (if m.fs + m.gv = 9223372036854775807 then 0 else m.fs + m.gv) n = 0 := by rw [eS]; exact chk_le hd1 hle (by omega)
     refine wc_skip<|wt ?_
     refine sqj (fun l w =>∃ (b12 : Nat), l = [(2, U64 x), (3, Ptr b3 0), (6, Ptr b6 0), (7, (.slice none 0 0)), (8, Str ([])), (9, I 0), (12, Ptr b12 0)] ∧ St w0 [] [(b12, .cells (#[I (((m.dir : Nat) : Int)), U64 (if m.fs + m.gv = 9223372036854775807 then 0 else m.fs + m.gv), U16 (ofT x), U16 (0), .slice a n cap]) 100), (b6, .cells (BV (Vector.replicate 176 0) ++ (BV (Vector.replicate 256 0) ++ #[I (0), U64 (0), U64 (0), .bool (false), (.slice none 0 0), I (0), .bool (false), I (0), U64 (0), (.slice none 0 0), Str ([]), I (0), .bool (false)])) 53), (b3, .cells (BV (expand m.key) ++ (BV sboxV ++ #[I (((m.dir : Nat) : Int)), U64 (m.fs), U64 (m.gv), .bool (false), .slice a1 n1 c1, I (((m.rf : Nat) : Int)), .bool (m.kp.isSome), I ((((kpS m.kp) : Nat) : Int)), U64 (kpT m.kp), .slice a2 n2 c2, Str m.ad, I (((m.mv : Nat) : Int)), .bool (m.cz)])) 53)] w) ?_ ?_
     ·refine wc_draw mo 9 (fun w =>St w0 [] [(b3, .cells (BV (expand m.key) ++ (BV sboxV ++ #[I (((m.dir : Nat) : Int)), U64 (m.fs), U64 (m.gv), .bool (false), .slice a1 n1 c1, I (((m.rf : Nat) : Int)), .bool (m.kp.isSome), I ((((kpS m.kp) : Nat) : Int)), U64 (kpT m.kp), .slice a2 n2 c2, Str m.ad, I (((m.mv : Nat) : Int)), .bool (m.cz)])) 53)] w) ?_
      have hS := hS.drew
      refine jx (hS.sl 2 2) fun jj =>dx 0 O (by kernel_rfl) (fun w hS =>fan 432 432 un53 O sz3 (by decide) O O O O (by omega) rr) jj<|dx 1 O (by kernel_rfl) (fun w hS =>lo 0 sc3 hS O O O O (cat_r (a := 176) (o' := 256) (BV_size _) (by omega) (cat_r (a := 256) (o' := 0) (BV_size _) (by omega) O)) rr) jj<|dx 2 O (by kernel_rfl) (fun w hS =>mv O O O rr) jj<|dx 3 O (by kernel_rfl) (fun w hS =>mv O O O rr) jj<|dx 6 O (by kernel_rfl) (fun w hS =>mv O O O rr) jj ?_
      refine dl2 4 8 O O (by kernel_rfl) ?_ ?_
      ·refine cv cf62 hS O O O O O (sp_mooringref16_Of x _) fun w hS =>lx (hS.sl 2 2) fun jj =>dx 5 O (by kernel_rfl) (fun w hS =>cvh (v := ofT x) un36 ⟨_, un3⟩ O O O rr) jj<|dx 7 O (by kernel_rfl) (fun w hS =>bd (cs := #[I (((m.dir : Nat) : Int)), U64 (if m.fs + m.gv = 9223372036854775807 then 0 else m.fs + m.gv), U16 (ofT x), U16 (0), .slice a n cap]) O O O (by kernel_rfl) rr) jj ?_
       refine dl 8 O (by kernel_rfl)<|ala zr100 hS O O fun b12 w hb12 hS =>lx (hS.sl 3 4) fun jj =>?_
       refine dl 9 O (by kernel_rfl)<|sa 0 ag100 hS O O O (by kernel_rfl) O O O fun w hS =>ly O<|de (by kernel_rfl) ?_
       exact mmq ⟨b12, rfl, hS⟩ ⟨rfl, rfl, rfl, rfl, rfl, rfl, rfl, trivial⟩
      ·refine ala zr100 hS O O fun b12 w hb12 hS =>lx (hS.sl 3 4) fun jj =>?_
       refine dl 4 O (by kernel_rfl)<|cv cf62 hS O O O O O (sp_mooringref16_Of x _) fun w hS =>lx (hS.sl 3 4) fun jj =>dx 5 O (by kernel_rfl) (fun w hS =>cvh (v := ofT x) un36 ⟨_, un3⟩ O O O rr) jj<|dx 7 O (by kernel_rfl) (fun w hS =>bd (cs := #[I (((m.dir : Nat) : Int)), U64 (if m.fs + m.gv = 9223372036854775807 then 0 else m.fs + m.gv), U16 (ofT x), U16 (0), .slice a n cap]) O O O (by kernel_rfl) rr) jj ?_
       refine dl 9 O (by kernel_rfl)<|sa 0 ag100 hS O O O (by kernel_rfl) O O O fun w hS =>ly O<|de (by kernel_rfl) ?_
       exact mmq ⟨b12, rfl, hS⟩ ⟨rfl, rfl, rfl, rfl, rfl, rfl, rfl, trivial⟩
     ·rintro _ w ⟨b12, rfl, hS⟩
      refine rg<|fan 438 438 un53 O sz50 (by decide) O O O O (by omega)<|lp (u := .agg (#[.bool (m.kp.isSome), I ((((kpS m.kp) : Nat) : Int)), U64 (kpT m.kp)])) 2 ag50 hS O O O O (le_sz (a := 445) (cat_size (a := 176) (b := 269) (BV_size _) (cat_size (a := 256) (b := 13) (BV_size _) O)) (by omega)) (cat_xr (a := 176) (o' := 262) (BV_size _) (by omega) (cat_xr (a := 256) (o' := 6) (BV_size _) (by omega) O)) O<|mv O O O<|cv cf65 hS O O O O O (sp_mooringref20_Reply m.kp x _) fun w hS =>cvh (v := replyV m.kp x) un36 ⟨_, un3⟩ O O O<|fan 3 3 un100 O sz36 (by decide) O O O O (by omega)<|st 0 sz36 hS O O O O O O (by show (3 : Nat) < 5; decide) O fun w hS =>wt<|rg<|bd (cs := #[.bool (false), I (0), U64 (0)]) O O O (by kernel_rfl)<|fan 438 438 un53 O sz50 (by decide) O O O O (by omega) ?_
      refine spp (cs' := BV (expand m.key) ++ (BV sboxV ++ #[I (((m.dir : Nat) : Int)), U64 (m.fs), U64 (m.gv), .bool (false), .slice a1 n1 c1, I (((m.rf : Nat) : Int)), .bool (false), I (0), U64 (0), .slice a2 n2 c2, Str m.ad, I (((m.mv : Nat) : Int)), .bool (m.cz)])) 2 ag50 hS O O O (by kernel_rfl) O (le_sz (a := 445) (cat_size (a := 176) (b := 269) (BV_size _) (cat_size (a := 256) (b := 13) (BV_size _) O)) (by omega)) O (cat_pr (a := 176) (o' := 262) (BV_size _) (by omega) (ple2 (m := 3) (a := 269) O (cat_size (a := 256) (b := 13) (BV_size _) O) (by omega)) (cat_pr (a := 256) (o' := 6) (BV_size _) (by omega) (ple2 (m := 3) (a := 13) O O (by omega)) O)) fun w hS =>wt<|rg<|fan 433 433 un53 O sz47 (by decide) O O O O (by omega)<|fan 1 434 un47 O sz24 (by decide) O O O O (by omega)<|lo 2 sc24 hS O O O O (cat_r (a := 176) (o' := 258) (BV_size _) (by omega) (cat_r (a := 256) (o' := 2) (BV_size _) (by omega) O))<|add64 (q := (1 : UInt64)) O O O O<|fan 433 433 un53 O sz47 (by decide) O O O O (by omega)<|fan 1 434 un47 O sz24 (by decide) O O O O (by omega)<|st 2 sz24 hS O O O O O O (lt_sz (a := 445) (cat_size (a := 176) (b := 269) (BV_size _) (cat_size (a := 256) (b := 13) (BV_size _) O)) (by omega)) (cat_sr (a := 176) (o' := 258) (BV_size _) (by omega) (cat_sr (a := 256) (o' := 2) (BV_size _) (by omega) O)) fun w hS =>wt<|rd mo 9 (fun w =>St w0 [] [(b12, .cells (#[I (((m.dir : Nat) : Int)), U64 (if m.fs + m.gv = 9223372036854775807 then 0 else m.fs + m.gv), U16 (ofT x), U16 (replyV m.kp x), .slice a n cap]) 100), (b3, .cells (BV (expand m.key) ++ (BV sboxV ++ #[I (((m.dir : Nat) : Int)), U64 (m.fs), U64 (m.gv + 1), .bool (false), .slice a1 n1 c1, I (((m.rf : Nat) : Int)), .bool (false), I (0), U64 (0), .slice a2 n2 c2, Str m.ad, I (((m.mv : Nat) : Int)), .bool (m.cz)])) 53)] w) ?_
      have hS := hS.drew
      refine jx (hS.sl 3 5) fun jj =>dx 0 O (by kernel_rfl) (fun w hS =>la 1 ag53 hS O O O O (cat_size (a := 176) (b := 269) (BV_size _) (cat_size (a := 256) (b := 13) (BV_size _) O)) rr) jj<|dx 1 O (by kernel_rfl) (fun w hS =>fan 0 0 un53 O sz45 (by decide) O O O O (by omega) rr) jj<|dx 2 O (by kernel_rfl) (fun w hS =>lp (u := .agg (BV (expand m.key) ++ BV sboxV)) 1 ag45 hS O O O O (le_sz (a := 445) (cat_size (a := 176) (b := 269) (BV_size _) (cat_size (a := 256) (b := 13) (BV_size _) O)) (by omega)) (cat_x2 (BV_size _) (BV_size _) O) O rr) jj<|dx 3 O (by kernel_rfl) (fun w hS =>la 0 ag100 hS O O O O O rr) jj<|dx 5 O (by kernel_rfl) (fun w hS =>fan 442 442 un53 O sz9 (by decide) O O O O (by omega) rr) jj<|dx 6 O (by kernel_rfl) (fun w hS =>lo 1 sc9 hS O O O O (cat_r (a := 176) (o' := 266) (BV_size _) (by omega) (cat_r (a := 256) (o' := 10) (BV_size _) (by omega) O)) rr) jj ?_
      refine dl 4 O (by kernel_rfl)<|cs cf66 hS O O O O O (sp_mooringref17_Encode m.key (((m.dir : Nat) : Int)) ((if m.fs + m.gv = 9223372036854775807 then 0 else m.fs + m.gv)) ((ofT x)) ((replyV m.kp x)) a n cap bs _ (by first | rfl | omega | (simp; omega) | (simp; done)) (by omega) (hc.st hS) (by omega) (by assumption)) ?_
      rintro _ X57 w ⟨a57, c57, rfl, hO57⟩ hS
      have hS := St.tailin (X := X57) hS [(b12, .cells (#[I (((m.dir : Nat) : Int)), U64 (if m.fs + m.gv = 9223372036854775807 then 0 else m.fs + m.gv), U16 (ofT x), U16 (replyV m.kp x), .slice a n cap]) 100), (b6, .cells (BV (Vector.replicate 176 0) ++ (BV (Vector.replicate 256 0) ++ #[I (0), U64 (0), U64 (0), .bool (false), (.slice none 0 0), I (0), .bool (false), I (0), U64 (0), (.slice none 0 0), Str ([]), I (0), .bool (false)])) 53), (b3, .cells (BV (expand m.key) ++ (BV sboxV ++ #[I (((m.dir : Nat) : Int)), U64 (m.fs), U64 (m.gv + 1), .bool (false), .slice a1 n1 c1, I (((m.rf : Nat) : Int)), .bool (false), I (0), U64 (0), .slice a2 n2 c2, Str m.ad, I (((m.mv : Nat) : Int)), .bool (m.cz)])) 53)] [] rfl
      refine lx (hS.sl 3 5) fun jj =>?_
      refine dl 7 O (by kernel_rfl)<|sa 1 ag53 hS O O O (cat_one (BV_one _) (cat_one (BV_one _) (by kernel_rfl))) O (cat_size (a := 176) (b := 269) (BV_size _) (cat_size (a := 256) (b := 13) (BV_size _) O)) (cat_size (a := 176) (b := 269) (BV_size _) (cat_size (a := 256) (b := 13) (BV_size _) O)) fun w hS =>lx (hS.sl 3 5) fun jj =>dx 8 O (by kernel_rfl) (fun w hS =>asg O O O rr) jj ?_
      refine dl 9 O (by kernel_rfl)<|asg O O O<|ly O ?_
      refine dl 10 O (by kernel_rfl)<|asg O O O<|ly O<|de (by kernel_rfl)<|wt<|wc_ret<|fin4 (v := .agg (BV (expand m.key) ++ (BV sboxV ++ #[I (((m.dir : Nat) : Int)), U64 (m.fs), U64 (m.gv + 1), .bool (false), .slice a1 n1 c1, I (((m.rf : Nat) : Int)), .bool (false), I (0), U64 (0), .slice a2 n2 c2, Str m.ad, I (((m.mv : Nat) : Int)), .bool (m.cz)]))) (u := .slice a57 (n + 28) c57) (x := Str m.ad) (y := I 0) O ⟨_, O, lv_a ag53 (hS.get 1 O) (cat_size (a := 176) (b := 269) (BV_size _) (cat_size (a := 256) (b := 13) (BV_size _) O))⟩ O O O ?_
      have hE2 : rsnE m n = 0 := by rw [rsnE, if_neg hcz, if_neg hL, if_neg hA, rpkE, if_neg hP]
      have eM : rsnM m n = { m with gv := m.gv + 1, kp := none } := if_pos hE2
      have eA : rsnA m n = m.ad := if_pos hE2
      have eB : rsnB m bs x = encP m.key (m.dir : Int) (m.fs + m.gv) (ofT x) (replyV m.kp x) bs := by rw [rsnB, hn, if_pos hE2]
      rw [eS] at hO57
      have hlx := hO57.len8
      exact ⟨_, X57, rfl, ⟨_, _, _, by rw [eM, eA, hE2]; rfl, by rw [eB]; exact Gives.own hO57 (by omega)⟩, hS.sublist (.cons _ (.cons _ (.cons _ (List.sublist_append_left X57 []))))⟩
theorem sp_RSndG (r : RS) (a1 : Option Addr) (n1 c1 : Nat) (a2 : Option Addr) (n2 c2 : Nat) (Y0 : List (Nat × Obj)) (a : Option Addr) (n cap : Nat) (bs : List UInt8) (x : UInt64) (w0 : World) {W : World} {F : List Nat} {L0 : List (Nat × Obj)} (hS0 : St W F L0 w0) (hY0 : ∀ p ∈ Y0, p ∈ L0) (hV : RefV r a1 n1 a2 n2 Y0) (hI : RInv r) {k : Nat} (hB : Bd (relS r) k) (hk : k < 1000000) (hn : bs.length = n) (hN : n ≤ 1000000) (hcap : n ≤ cap) (hc : Cel w0 a (c8 bs)) : Calls Tryz.prog 17 #[.agg (refC r a1 n1 c1 a2 n2 c2), .slice a n cap, U64 x] w0 (RetS w0 (fun v Y => ∃ a' n' c' r' e' ad' b', v = .tuple #[.agg (refC r' a1 n1 c1 a2 n2 c2), .slice a' n' c', Str ad', I ((e' : Nat) : Int)] ∧ r' = rsnM r n ∧ e' = rsnE r n ∧ ad' = rsnA r n ∧ b' = rsnB r bs x ∧ b'.length = n' ∧ n' ≤ 1000000 ∧ n' ≤ c' ∧ Rd a' b' Y ∧ RInv r' ∧ Bd (relS r') k ∧ RefV r' a1 n1 a2 n2 Y0)) :=
  (sp_mooringref22_Send r a1 n1 c1 a2 n2 c2 a n cap bs x w0 hn hN hcap hc hI.dir hI.seq).mono fun e w' ⟨v, L, he, ⟨a', n', c', hv, hg⟩, hS⟩ => ⟨v, L, he, ⟨a', n', c', _, _, _, _, hv, rfl, rfl, rfl, rfl, hg.1, hg.2.1, hg.2.2.1, hg.2.2.2, (rel_snd hI n).2, Bd.snd hI hB n, hV.snd n⟩, hS⟩
theorem sp_mooringref01_Number (a : Option Addr) (n cap : Nat) (bs : List UInt8) (w0 : World) (hn : bs.length = n) (hN : n ≤ 1000000) (hc : Cel w0 a (c8 bs)) : Calls Tryz.prog 40 #[.slice a n cap] w0 (Ret w0 (U64 (num2 bs))) := by
 refine enter (args := [.slice a n cap]) Tryz.func40 O O<|startw fun w hS =>rg<|asg O O O<|wt<|rg<|asg O O O<|wt<|wc_seq<|rg<|asg O O O<|wt ?_
 refine wc_block ?_
 refine wc_loop (σ := Nat) (fun k =>[(0, .slice a n cap), (2, U64 0), (3, U64 (num2 (bs.take k))), (4, I ((k : Int)))])
  (fun k w => (k ≤ n) ∧ St w0 [] [] w) (fun k => n - k) 0 ⟨rfl, rfl, rfl, rfl, trivial⟩ ⟨by omega, hS⟩ ?_
 rintro k w ⟨hk, hS⟩
 refine wc_seq<|rg<|mv O O O<|mv O O O<|lens un30 O O O<|lss O O O O<|wt ?_
 refine wc_if O (fun hc1 =>?_) (fun hc1 =>?_)
 ·try simp only [SB] at hc1
  refine wc_skip<|wt<|wc_seq<|wc_block<|wc_region<|mv O O O<|mul64 (q := (256 : UInt64)) O O O O<|mv O O O<|mv O O O<|slx k un30 sz5 O O O O (by omega) (by omega) ((hc.st hS).some8 (j := k) (by first | omega | (simp; done) | (simp; omega)))<|ldx sc5 O O O (hc.st hS) (by first | omega | (simp; done) | (simp; omega))<|cvu64 un24 ⟨_, un5⟩ O O O ?_
  refine add64 O O O O<|asg O O O<|q_block_norm<|wt<|wc_region<|mv O O O<|addi (by omega) (by omega) O O O O<|asg O O O ?_
  refine again_q (k + 1) ⟨O, O, lkU64 O (num2_take _ _ (by omega)), lkI O (by first | omega | rfl), trivial⟩ ⟨by omega, hS⟩ (by omega)
 ·try simp only [SB] at hc1
  have hk4 : k = bs.length := by omega
  refine wc_exit<|q_then_exit<|q_then_exit<|q_block_hit<|wt<|rg<|mv O O O<|asg O O O<|wt<|wc_ret<|fin1 (v := U64 (num2 (bs.take k))) O O ?_
  refine ⟨?_, hS.drop⟩
  rw [hk4, List.take_length]
theorem sp_mooringref15_ParseHead (a : Option Addr) (n cap : Nat) (bs : List UInt8) (w0 : World) (hn : bs.length = n) (hN : n ≤ 1000000) (hc : Cel w0 a (c8 bs)) (hcap : n ≤ cap) (h8 : 8 ≤ n) : Calls Tryz.prog 11 #[.slice a n cap] w0 (Ret w0 (.tuple #[I ((headD2 bs : Nat) : Int), U64 (headS2 bs)])) := by
 refine enter (args := [.slice a n cap]) Tryz.func11 O O<|startw fun w hS =>rg<|asg O O O<|asg O O O<|wt<|rg<|mv O O O<|s_h 8 un30 ⟨_, sz5⟩ O O O O (by omega) (by omega)<|cv cf40 hS O O O O O (sp_mooringref01_Number a 8 cap (((bs).take 8)) _ (by first | rfl | omega | (simp; omega) | (simp; done)) (by omega) ((hc.st hS).take8 8)) fun w hS =>asg O O O<|wt ?_
 refine wc_seq<|rg<|mv O O O<|geq O O O O<|wt ?_
 refine wc_if O (fun hc1 =>?_) (fun hc1 =>?_)
 ·try simp only [SB] at hc1
  refine rg<|mv O O O<|sub64 (q := (9223372036854775808 : UInt64)) O O O O<|asg O O O<|asg O O O<|wt<|wc_ret<|q_then_ret<|fin2 (v := I 1) (u := U64 ((num2 ((bs).take 8)) - 9223372036854775808)) O O O ?_
  refine ⟨?_, hS.drop⟩
  have hg : 9223372036854775808 ≤ (num2 (bs.take 8)).toNat := by omega
  simp only [headD2, headS2, if_pos hg]; rfl
 ·try simp only [SB] at hc1
  refine wc_skip<|wt<|rg<|mv O O O<|asg O O O<|asg O O O<|wt<|wc_ret<|fin2 (v := I 0) (u := U64 (num2 ((bs).take 8))) O O O ?_
  refine ⟨?_, hS.drop⟩
  have hg : ¬ 9223372036854775808 ≤ (num2 (bs.take 8)).toNat := by omega
  simp only [headD2, headS2, if_neg hg]; rfl
theorem sp_mooringref04_Turned (t : V8 256) (w0 : World) : Calls Tryz.prog 183 #[.agg (BV t)] w0 (Ret w0 (.agg (BV (trR t 256)))) := by
 refine enter (args := [.agg (BV t)]) Tryz.func183 O O<|startw fun w hS =>rg<|bxa hS O O O fun b1 w hb1 hS =>ala zr43 hS O O fun b2 w hb2 hS =>wt<|rg<|ala zr43 hS O O fun b3 w hb3 hS =>wt<|wc_seq<|rg<|asg O O O ?_
 refine wt<|wc_block ?_
 refine wc_loop (σ := Nat) (fun k =>[(1, Ptr b1 0), (2, Ptr b2 0), (3, Ptr b3 0), (4, I ((k : Int)))])
  (fun k w => (k ≤ 256) ∧ St w0 [] [(b3, .cells (BV (trR t k)) 43), (b2, .cells (BV (Vector.replicate 256 0)) 43), (b1, .cells (BV t) 43)] w) (fun k => 256 - k) 0 ⟨rfl, rfl, rfl, rfl, trivial⟩ ⟨by omega, hS⟩ ?_
 rintro k w ⟨hk, hS⟩
 refine wc_seq<|rg<|mv O O O<|lss O O O O<|wt ?_
 refine wc_if O (fun hc1 =>?_) (fun hc1 =>?_)
 ·try simp only [SB] at hc1
  refine wc_skip<|wt<|wc_seq<|wc_block<|wc_region<|mv O O O<|ian k k un43 sz5 O O O O (by omega) (by omega) (by omega)<|lo 2 sc5 hS O O O O (BV_get _ k (by omega))<|mv O O O<|cvu8 un5 ⟨_, un3⟩ O O O<|ian ((gv t k).toNat) (((gv t k).toNat)) un43 sz5 O O O O (by omega) (by have := (gv t k).toNat_lt; omega) (by omega)<|st 0 sz5 hS O O O O O O (by rw [BV_size]; have := (gv t k).toNat_lt; omega) (BV_set _ _ (toU8 ((k : Int)) : UInt8)) fun w hS =>?_
  refine q_block_norm<|wt<|wc_region<|mv O O O<|addi (by omega) (by omega) O O O O<|asg O O O ?_
  refine again_q (k + 1) ⟨O, O, O, lkI O (by first | omega | rfl), trivial⟩ ⟨by omega, hS⟩ (by omega)
 ·try simp only [SB] at hc1
  refine wc_exit<|q_then_exit<|q_then_exit<|q_block_hit<|wt<|rg<|la 0 ag43 hS O O O O (BV_size _)<|sa 1 ag43 hS O O O (BV_one _) O (BV_size _) (BV_size _) fun w hS =>wt<|wc_ret<|fin1 (v := .agg (BV (trR t k))) O ⟨_, O, lv_a ag43 (hS.get 1 O) (BV_size _)⟩ ?_
  refine ⟨?_, hS.drop⟩
  have hk5 : k = 256 := by omega
  rw [hk5]
theorem sp_mooringref13_unmix (g : V8 16) (w0 : World) : Calls Tryz.prog 186 #[.agg (BV g)] w0 (Ret w0 (.agg (BV (unG g)))) := by
 refine enter (args := [.agg (BV g)]) Tryz.func186 O O<|startw fun w hS =>rg<|bxa hS O O O fun b1 w hb1 hS =>ala zr268 hS O O fun b2 w hb2 hS =>wt<|rg<|ala zr268 hS O O fun b3 w hb3 hS =>wt<|wc_seq<|rg<|asg O O O ?_
 refine wt<|wc_block ?_
 refine wc_loop (σ := Nat) (fun c =>[(1, Ptr b1 0), (2, Ptr b2 0), (3, Ptr b3 0), (4, I ((c : Int)))])
  (fun c w => (c ≤ 4) ∧ St w0 [] [(b3, .cells (BV (gfill (unGf g) (Vector.replicate 16 0) c 0)) 268), (b2, .cells (BV (Vector.replicate 16 0)) 268), (b1, .cells (BV g) 268)] w) (fun c => 4 - c) 0 ⟨rfl, rfl, rfl, rfl, trivial⟩ ⟨by omega, (by rw [gfill_0]; exact hS)⟩ ?_
 rintro c w ⟨hk, hS⟩
 refine wc_seq<|rg<|mv O O O<|lss O O O O<|wt ?_
 refine wc_if O (fun hc1 =>?_) (fun hc1 =>?_)
 ·try simp only [SB] at hc1
  refine wc_skip<|wt<|wc_seq<|wc_block<|rg<|asg O O O<|wt<|wc_block ?_
  refine wc_loop (σ := Nat) (fun k =>[(1, Ptr b1 0), (2, Ptr b2 0), (3, Ptr b3 0), (4, I ((c : Int))), (5, I ((k : Int)))])
   (fun k w => (k ≤ 4) ∧ St w0 [] [(b3, .cells (BV (gfill (unGf g) (Vector.replicate 16 0) c k)) 268), (b2, .cells (BV (Vector.replicate 16 0)) 268), (b1, .cells (BV g) 268)] w) (fun k => 4 - k) 0 ⟨rfl, rfl, rfl, rfl, rfl, trivial⟩ ⟨by omega, hS⟩ ?_
  rintro k w ⟨hk, hS⟩
  refine wc_seq<|rg<|mv O O O<|lss O O O O<|wt ?_
  refine wc_if O (fun hc2 =>?_) (fun hc2 =>?_)
  ·try simp only [SB] at hc2
   refine wc_skip<|wt<|wc_seq<|wc_block<|rd mo 15 (fun w =>St w0 [] [(b3, .cells (BV (gfill (unGf g) (Vector.replicate 16 0) c k)) 268), (b2, .cells (BV (Vector.replicate 16 0)) 268), (b1, .cells (BV g) 268)] w)<|have hS := hS.drew; jx hS fun jj =>dx 0 O (by kernel_rfl) (fun w hS =>mv O O O rr) jj<|dx 1 O (by kernel_rfl) (fun w hS =>mv O O O rr) jj<|dx 2 O (by kernel_rfl) (fun w hS =>ian k (k * 4) un268 sz205 O O O O (by omega) (by omega) (by omega) rr) jj<|dx 3 O (by kernel_rfl) (fun w hS =>ian c (k * 4 + c) un205 sz5 O O O O (by omega) (by omega) (by omega) rr) jj<|dx 4 O (by kernel_rfl) (fun w hS =>lo 2 sc5 hS O O O O (BV_get _ (k * 4 + c) (by omega)) rr) jj<|dx 6 O (by kernel_rfl) (fun w hS =>mv O O O rr) jj ?_
   refine dx 7 O (by kernel_rfl) (fun w hS =>addi (by omega) (by omega) O O O O rr) jj<|dx 8 O (by kernel_rfl) (fun w hS =>remi (by omega) (by omega) O O O O rr) jj<|dx 9 O (by kernel_rfl) (fun w hS =>mv O O O rr) jj<|dx 10 O (by kernel_rfl) (fun w hS =>ian ((k + 1) % 4) (((k + 1) % 4) * 4) un268 sz205 O O O O (by omega) (by omega) (by omega) rr) jj<|dx 11 O (by kernel_rfl) (fun w hS =>ian c (((k + 1) % 4) * 4 + c) un205 sz5 O O O O (by omega) (by omega) (by omega) rr) jj<|dx 12 O (by kernel_rfl) (fun w hS =>lo 2 sc5 hS O O O O (BV_get _ (((k + 1) % 4) * 4 + c) (by omega)) rr) jj ?_
   refine dl 5 O (by kernel_rfl)<|cv cf119 hS O O O O O (sp_mooringref03_Mul 14 ((gv g (k * 4 + c))) _) fun w hS =>lx hS fun jj =>?_
   refine dl 13 O (by kernel_rfl)<|cv cf119 hS O O O O O (sp_mooringref03_Mul 11 ((gv g (((k + 1) % 4) * 4 + c))) _) fun w hS =>lx hS fun jj =>dx 14 O (by kernel_rfl) (fun w hS =>xor8 O O O O rr) jj ?_
   refine dl 15 O (by kernel_rfl)<|asg O O O<|ly O<|de (by kernel_rfl)<|wt<|wc_draw mo 24 (fun w =>St w0 [] [(b2, .cells (BV (Vector.replicate 16 0)) 268), (b1, .cells (BV g) 268)] w)<|have hS := hS.drew; jx (hS.sl 3 6) fun jj =>dx 0 O (by kernel_rfl) (fun w hS =>mv O O O rr) jj<|dx 1 O (by kernel_rfl) (fun w hS =>mv O O O rr) jj<|dx 2 O (by kernel_rfl) (fun w hS =>mv O O O rr) jj<|dx 3 O (by kernel_rfl) (fun w hS =>mv O O O rr) jj<|dx 4 O (by kernel_rfl) (fun w hS =>addi (by omega) (by omega) O O O O rr) jj ?_
   refine dx 5 O (by kernel_rfl) (fun w hS =>remi (by omega) (by omega) O O O O rr) jj<|dx 6 O (by kernel_rfl) (fun w hS =>mv O O O rr) jj<|dx 7 O (by kernel_rfl) (fun w hS =>ian ((k + 2) % 4) (((k + 2) % 4) * 4) un268 sz205 O O O O (by omega) (by omega) (by omega) rr) jj<|dx 8 O (by kernel_rfl) (fun w hS =>ian c (((k + 2) % 4) * 4 + c) un205 sz5 O O O O (by omega) (by omega) (by omega) rr) jj<|dx 9 O (by kernel_rfl) (fun w hS =>lo 1 sc5 hS O O O O (BV_get _ (((k + 2) % 4) * 4 + c) (by omega)) rr) jj<|dx 12 O (by kernel_rfl) (fun w hS =>mv O O O rr) jj<|dx 13 O (by kernel_rfl) (fun w hS =>addi (by omega) (by omega) O O O O rr) jj<|dx 14 O (by kernel_rfl) (fun w hS =>remi (by omega) (by omega) O O O O rr) jj<|dx 15 O (by kernel_rfl) (fun w hS =>mv O O O rr) jj<|dx 16 O (by kernel_rfl) (fun w hS =>ian ((k + 3) % 4) (((k + 3) % 4) * 4) un268 sz205 O O O O (by omega) (by omega) (by omega) rr) jj<|dx 17 O (by kernel_rfl) (fun w hS =>ian c (((k + 3) % 4) * 4 + c) un205 sz5 O O O O (by omega) (by omega) (by omega) rr) jj<|dx 18 O (by kernel_rfl) (fun w hS =>lo 1 sc5 hS O O O O (BV_get _ (((k + 3) % 4) * 4 + c) (by omega)) rr) jj ?_
   refine dx 21 O (by kernel_rfl) (fun w hS =>ian k (k * 4) un268 sz205 O O O O (by omega) (by omega) (by omega) rr) jj ?_
   refine dl 10 O (by kernel_rfl)<|cv cf119 hS O O O O O (sp_mooringref03_Mul 13 ((gv g (((k + 2) % 4) * 4 + c))) _) fun w hS =>lx (hS.sl 3 6) fun jj =>dx 11 O (by kernel_rfl) (fun w hS =>xor8 O O O O rr) jj ?_
   refine dl 19 O (by kernel_rfl)<|cv cf119 hS O O O O O (sp_mooringref03_Mul 9 ((gv g (((k + 3) % 4) * 4 + c))) _) fun w hS =>lx (hS.sl 3 6) fun jj =>dx 20 O (by kernel_rfl) (fun w hS =>xor8 O O O O rr) jj<|dx 22 O (by kernel_rfl) (fun w hS =>ian c (k * 4 + c) un205 sz5 O O O O (by omega) (by omega) (by omega) rr) jj ?_
   refine dl 23 O (by kernel_rfl)<|st (cs' := BV (gfill (unGf g) (Vector.replicate 16 0) c (k + 1))) 0 sz5 hS O O O O O O (by rw [BV_size]; omega) (by rw [BV_set, show (((mulR 14 (gv g (k * 4 + c))) ^^^ (mulR 11 (gv g (((k + 1) % 4) * 4 + c)))) ^^^ (mulR 13 (gv g (((k + 2) % 4) * 4 + c)))) ^^^ (mulR 9 (gv g (((k + 3) % 4) * 4 + c))) = (unGf g) (k * 4 + c) by (simp only [mixGf, unGf, show (k * 4 + c) / 4 = k by omega, show (k * 4 + c) % 4 = c by omega])]; exact congrArg BV (gfill_set (unGf g) _ (by omega) (by omega))) fun w hS =>lx (hS.sl 3 6) fun jj =>de (by kernel_rfl)<|q_block_norm<|wt<|wc_region<|mv O O O<|addi (by omega) (by omega) O O O O<|asg O O O ?_
   refine again_q (k + 1) ⟨O, O, O, O, lkI O (by first | omega | rfl), trivial⟩ ⟨by omega, hS⟩ (by omega)
  ·try simp only [SB] at hc2
   have hk4 : k = 4 := by omega
   rw [hk4, gfill_next] at hS
   refine wc_exit<|q_then_exit<|q_then_exit<|q_block_hit<|q_block_norm<|wt<|wc_region<|mv O O O<|addi (by omega) (by omega) O O O O<|asg O O O ?_
   refine again_q (c + 1) ⟨O, O, O, lkI O (by first | omega | rfl), trivial⟩ ⟨by omega, hS⟩ (by omega)
 ·try simp only [SB] at hc1
  refine wc_exit<|q_then_exit<|q_then_exit<|q_block_hit<|wt<|rg<|la 0 ag268 hS O O O O (BV_size _)<|sa 1 ag268 hS O O O (BV_one _) O (BV_size _) (BV_size _) fun w hS =>wt<|wc_ret<|fin1 (v := .agg (BV (gfill (unGf g) (Vector.replicate 16 0) c 0))) O ⟨_, O, lv_a ag268 (hS.get 1 O) (BV_size _)⟩ ?_
  refine ⟨?_, hS.drop⟩
  have hc4 : c = 4 := by omega
  rw [hc4, gfill_end]; rfl
theorem sp_mooringref13_Block (key b : V8 16) (w0 : World) : Calls Tryz.prog 157 #[.agg (BV (expand key) ++ BV sboxV), .agg (BV b)] w0 (Ret w0 (.agg (BV (dec key b)))) := by
 refine enter (args := [.agg (BV (expand key) ++ BV sboxV), .agg (BV b)]) Tryz.func157 O O<|startw fun w hS =>rg<|bxa hS O O O fun b2 w hb2 hS =>bxa hS O O O fun b3 w hb3 hS =>ala zr22 hS O O fun b4 w hb4 hS =>wt<|rg<|fan 176 176 un45 O sz43 (by decide) O O O O (by omega)<|lp (u := .agg (BV sboxV)) 2 ag43 hS O O O O (le_sz (a := 432) (cat_size (a := 176) (b := 256) (BV_size _) (BV_size _)) (by omega)) (cat_xr (a := 176) (o' := 0) (BV_size _) (by omega) (ext_all (BV_size _))) O<|cv cf183 hS O O O O O (sp_mooringref04_Turned sboxV _) fun w hS =>ala zr43 hS O O fun b5 w hb5 hS =>?_
 refine sa 0 ag43 hS O O O (BV_one _) O (BV_size _) (BV_size _) fun w hS =>wt<|rg<|la 2 ag22 hS O O O O (BV_size _)<|cv cf184 hS O O O O O (sp_mooringref06_Of b _) fun w hS =>ala zr268 hS O O fun b6 w hb6 hS =>sa 0 ag268 hS O O O (BV_one _) O (BV_size _) (BV_size _) fun w hS =>wt<|wc_seq<|rg<|asg O O O<|wt ?_
 refine wc_block ?_
 refine wc_loop (σ := Nat) (fun j =>[(2, Ptr b2 0), (4, Ptr b4 0), (5, Ptr b5 0), (6, Ptr b6 0), (7, I ((10 : Int) - (j : Int)))])
  (fun j w => (j ≤ 10) ∧ St w0 [] [(b6, .cells (BV (deG key b j)) 268), (b5, .cells (BV (trR sboxV 256)) 43), (b4, .cells (BV (Vector.replicate 16 0)) 22), (b3, .cells (BV b) 22), (b2, .cells (BV (expand key) ++ BV sboxV) 45)] w) (fun j => 10 - j) 0 ⟨rfl, rfl, rfl, rfl, rfl, trivial⟩ ⟨by omega, hS⟩ ?_
 rintro j w ⟨hk, hS⟩
 refine wc_seq<|rg<|mv O O O<|geq O O O O<|wt ?_
 refine wc_if O (fun hc1 =>?_) (fun hc1 =>?_)
 ·try simp only [SB] at hc1
  refine wc_skip<|wt<|wc_seq<|wc_block<|rd mo 6 (fun w =>St w0 [] [(b5, .cells (BV (trR sboxV 256)) 43), (b4, .cells (BV (Vector.replicate 16 0)) 22), (b3, .cells (BV b) 22), (b2, .cells (BV (expand key) ++ BV sboxV) 45)] w)<|have hS := hS.drew; jx (hS.sl 5 30) fun jj =>dx 1 O (by kernel_rfl) (fun w hS =>mv O O O rr) jj<|dx 2 O (by kernel_rfl) (fun w hS =>fan 0 0 un45 O sz42 (by decide) O O O O (by omega) rr) jj<|dx 3 O (by kernel_rfl) (fun w hS =>ian (10 - j) ((10 - j) * 16) un42 sz22 O O O O (by omega) (by omega) (by omega) rr) jj<|dx 4 O (by kernel_rfl) (fun w hS =>lp (u := .agg (BV (seg8 16 (expand key) ((10 - j) * 16)))) 3 ag22 hS O O O O (le_sz (a := 432) (cat_size (a := 176) (b := 256) (BV_size _) (BV_size _)) (by omega)) (cat_xl (a := 176) (BV_size _) (by omega) (BV_extract 16 _ ((10 - j) * 16) (by omega))) O rr) jj ?_
  refine dl 0 O (by kernel_rfl)<|la 0 ag268 hS O O O O (BV_size _)<|lx (hS.sl 5 30) fun jj =>?_
  refine dl 5 O (by kernel_rfl)<|cv cf185 hS O O O O O (sp_mooringref06_Add ((deG key b j)) ((seg8 16 (expand key) ((10 - j) * 16))) _) fun w hS =>lx (hS.sl 5 30) fun jj =>?_
  refine dl 6 O (by kernel_rfl)<|sa 0 ag268 hS O O O (BV_one _) O (BV_size _) (BV_size _) fun w hS =>ly O<|de (by kernel_rfl)<|wt<|wc_seq<|rg<|mv O O O<|lss O O O O<|wt ?_
  refine wc_if O (fun hc2 =>?_) (fun hc2 =>?_)
  ·try simp only [SB] at hc2
   refine wc_region<|la 0 ag268 hS O O O O (BV_size _)<|cv cf186 hS O O O O O (sp_mooringref13_unmix ((addG (deG key b j) (seg8 16 (expand key) ((10 - j) * 16)))) _) fun w hS =>sa 0 ag268 hS O O O (BV_one _) O (BV_size _) (BV_size _) fun w hS =>wt<|rg<|la 0 ag268 hS O O O O (BV_size _)<|cv cf187 hS O O O O O (sp_mooringref06_Shift ((unG (addG (deG key b j) (seg8 16 (expand key) ((10 - j) * 16))))) _) fun w hS =>cv cf187 hS O O O O O (sp_mooringref06_Shift ((shG (unG (addG (deG key b j) (seg8 16 (expand key) ((10 - j) * 16)))))) _) fun w hS =>cv cf187 hS O O O O O (sp_mooringref06_Shift ((shG (shG (unG (addG (deG key b j) (seg8 16 (expand key) ((10 - j) * 16))))))) _) fun w hS =>sa 0 ag268 hS O O O (BV_one _) O (BV_size _) (BV_size _) fun w hS =>wt ?_
   refine wc_region<|la 0 ag268 hS O O O O (BV_size _)<|la 1 ag43 hS O O O O (BV_size _)<|cv cf188 hS O O O O O (sp_mooringref06_Sub ((shG (shG (shG (unG (addG (deG key b j) (seg8 16 (expand key) ((10 - j) * 16)))))))) ((trR sboxV 256)) _) fun w hS =>sa 0 ag268 hS O O O (BV_one _) O (BV_size _) (BV_size _) fun w hS =>q_block_norm<|wt<|wc_region<|mv O O O<|subi (by omega) (by omega) O O O O<|asg O O O ?_
   refine again_q (j + 1) ⟨O, O, O, O, lkI O (by omega), trivial⟩ ⟨by omega, (by rw [de_lo (by omega)]; exact hS)⟩ (by omega)
  ·try simp only [SB] at hc2
   refine wc_skip<|wt<|rg<|la 0 ag268 hS O O O O (BV_size _)<|cv cf187 hS O O O O O (sp_mooringref06_Shift ((addG (deG key b j) (seg8 16 (expand key) ((10 - j) * 16)))) _) fun w hS =>cv cf187 hS O O O O O (sp_mooringref06_Shift ((shG (addG (deG key b j) (seg8 16 (expand key) ((10 - j) * 16))))) _) fun w hS =>cv cf187 hS O O O O O (sp_mooringref06_Shift ((shG (shG (addG (deG key b j) (seg8 16 (expand key) ((10 - j) * 16)))))) _) fun w hS =>sa 0 ag268 hS O O O (BV_one _) O (BV_size _) (BV_size _) fun w hS =>wt<|wc_region<|la 0 ag268 hS O O O O (BV_size _)<|la 1 ag43 hS O O O O (BV_size _) ?_
   refine cv cf188 hS O O O O O (sp_mooringref06_Sub ((shG (shG (shG (addG (deG key b j) (seg8 16 (expand key) ((10 - j) * 16))))))) ((trR sboxV 256)) _) fun w hS =>sa 0 ag268 hS O O O (BV_one _) O (BV_size _) (BV_size _) fun w hS =>q_block_norm<|wt<|wc_region<|mv O O O<|subi (by omega) (by omega) O O O O<|asg O O O ?_
   refine again_q (j + 1) ⟨O, O, O, O, lkI O (by omega), trivial⟩ ⟨by omega, (by rw [de_hi (by omega)]; exact hS)⟩ (by omega)
 ·try simp only [SB] at hc1
  refine wc_exit<|q_then_exit<|q_then_exit<|q_block_hit<|wt<|rg<|la 0 ag268 hS O O O O (BV_size _)<|fan 0 0 un45 O sz42 (by decide) O O O O (by omega)<|ian 0 0 un42 sz22 O O O O (by omega) (by omega) (by omega)<|lp (u := .agg (BV (seg8 16 (expand key) 0))) 4 ag22 hS O O O O (le_sz (a := 432) (cat_size (a := 176) (b := 256) (BV_size _) (BV_size _)) (by omega)) (cat_xl (a := 176) (BV_size _) (by omega) (BV_extract 16 _ 0 (by omega))) O<|cv cf185 hS O O O O O (sp_mooringref06_Add ((deG key b j)) ((seg8 16 (expand key) 0)) _) fun w hS =>cv cf189 hS O O O O O (sp_mooringref06_Block ((addG (deG key b j) (seg8 16 (expand key) 0))) _) fun w hS =>?_
  refine sa 2 ag22 hS O O O (BV_one _) O (BV_size _) (BV_size _) fun w hS =>wt<|wc_ret<|fin1 (v := .agg (BV (blG (addG (deG key b j) (seg8 16 (expand key) 0))))) O ⟨_, O, lv_a ag22 (hS.get 2 O) (BV_size _)⟩ ?_
  refine ⟨?_, hS.drop⟩
  have hj : j = 10 := by omega
  rw [hj]
  exact congrArg (fun x => Ending.returned (.agg (BV x))) (decG_dec key b)
theorem sp_mooringref13_Decrypt (key : V8 16) (nonce : V8 12) (a : Option Addr) (n cap : Nat) (bs : List UInt8) (w0 : World) (hn : bs.length = n) (hN : n ≤ 1000000) (hc : Cel w0 a (c8 bs)) (hcap : n ≤ cap) (h4 : n ≤ 4000) : Calls Tryz.prog 123 #[.agg (BV (expand key) ++ BV sboxV), .agg (BV nonce), .slice a n cap] w0 (RetS w0 (fun v X => ∃ a' c', v = .slice a' n c' ∧ Own 1 a' n c' (c8 (decT key nonce bs)) X)) := by
 refine enter (args := [.agg (BV (expand key) ++ BV sboxV), .agg (BV nonce), .slice a n cap]) Tryz.func123 O O<|startw fun w hS =>rg<|bxa hS O O O fun b3 w hb3 hS =>bxa hS O O O fun b4 w hb4 hS =>asg O O O<|wt<|rg<|la 1 ag45 hS O O O O (cat_size (a := 176) (b := 256) (BV_size _) (BV_size _))<|cv cf153 hS O O O O O (sp_mooringref09_Star key _) fun w hS =>ala zr22 hS O O fun b7 w hb7 hS =>sa 0 ag22 hS O O O (BV_one _) O (BV_size _) (BV_size _) fun w hS =>?_
 refine wt<|rg<|la 2 ag45 hS O O O O (cat_size (a := 176) (b := 256) (BV_size _) (BV_size _))<|la 1 ag173 hS O O O O (BV_size _)<|cv cf154 hS O O O O O (sp_mooringref10_Start key nonce _) fun w hS =>ala zr22 hS O O fun b8 w hb8 hS =>sa 0 ag22 hS O O O (BV_one _) O (BV_size _) (BV_size _) fun w hS =>wt<|rg<|asg O O O<|wt<|rg ?_
 refine mv O O O<|lens un30 O O O<|quoi (by omega) (by omega) (by omega) O O O O<|asg O O O<|wt<|wc_seq<|rg<|asg O O O<|wt<|wc_block ?_
 refine wc_loop (σ := (Nat × Option Addr × Nat × List (Nat × Obj))) (fun s =>[(2, .slice a n cap), (3, Ptr b3 0), (6, (.slice none 0 0)), (7, Ptr b7 0), (8, Ptr b8 0), (9, .slice s.2.1 (s.1 * 16) s.2.2.1), (10, I (((n : Nat) : Int) / 16)), (11, I ((s.1 : Int)))])
  (fun s w => (s.1 ≤ n / 16 ∧ Own 1 s.2.1 (s.1 * 16) s.2.2.1 (c8 (deT key nonce bs s.1)) s.2.2.2) ∧ St w0 [] ([(b8, .cells (BV (crO key nonce s.1)) 22), (b7, .cells (BV (star key)) 22), (b4, .cells (BV nonce) 173), (b3, .cells (BV (expand key) ++ BV sboxV) 45)] ++ (s.2.2.2 ++ [])) w) (fun s => n / 16 - s.1) (0, none, 0, []) ⟨rfl, rfl, rfl, rfl, rfl, rfl, rfl, rfl, trivial⟩ ⟨⟨by omega, Own.nil 1⟩, (hS.napp)⟩ ?_
 rintro s w ⟨⟨hk, hO⟩, hS⟩
 refine wc_seq<|rg<|mv O O O<|mv O O O<|lss O O O O<|wt ?_
 refine wc_if O (fun hc1 =>?_) (fun hc1 =>?_)
 ·try simp only [SB] at hc1
  refine wc_skip<|wt<|wc_seq<|wc_block<|rd mo 7 (fun w =>St w0 [] ([(b8, .cells (BV (crO key nonce s.1)) 22), (b7, .cells (BV (star key)) 22), (b4, .cells (BV nonce) 173), (b3, .cells (BV (expand key) ++ BV sboxV) 45)] ++ (s.2.2.2 ++ [])) w) ?_
  have hS := hS.drew
  refine jx hS fun jj =>dx 0 O (by kernel_rfl) (fun w hS =>la 0 ag22 hS O O O O (BV_size _) rr) jj<|dx 1 O (by kernel_rfl) (fun w hS =>la 1 ag22 hS O O O O (BV_size _) rr) jj<|dx 2 O (by kernel_rfl) (fun w hS =>mv O O O rr) jj<|dx 3 O (by kernel_rfl) (fun w hS =>addi (by omega) (by omega) O O O O rr) jj<|dx 4 O (by kernel_rfl) (fun w hS =>cvu64 un24 ⟨_, un3⟩ O O O rr) jj ?_
  refine dl 5 O (by kernel_rfl)<|cv cf156 hS O O O O O (sp_mooringref09_For key (s.1 + 1) ((star key)) ((toU64 ((s.1 : Int) + 1))) _ O O (by omega) (by omega)) fun w hS =>lx hS fun jj =>?_
  refine dl 6 O (by kernel_rfl)<|cv (v := .agg (BV (crO key nonce (s.1 + 1)))) cf155 hS O O O O O (sp_mooringref08_Xor ((crO key nonce s.1)) ((forN key (toU64 ((s.1 + 1 : Nat) : Int)))) _) fun w hS =>lx hS fun jj =>?_
  refine dl 7 O (by kernel_rfl)<|sa 0 ag22 hS O O O (BV_one _) O (BV_size _) (BV_size _) fun w hS =>ly O<|de (by kernel_rfl)<|wt ?_
  refine sqj (fun l w =>∃ (b12 : Nat), l = [(2, .slice a n cap), (3, Ptr b3 0), (6, (.slice none 0 0)), (7, Ptr b7 0), (8, Ptr b8 0), (9, .slice s.2.1 (s.1 * 16) s.2.2.1), (10, I (((n : Nat) : Int) / 16)), (11, I ((s.1 : Int))), (12, Ptr b12 0)] ∧ St w0 [] ([(b12, .cells (BV (deB key nonce bs s.1)) 22), (b8, .cells (BV (crO key nonce (s.1 + 1))) 22), (b7, .cells (BV (star key)) 22), (b4, .cells (BV nonce) 173), (b3, .cells (BV (expand key) ++ BV sboxV) 45)] ++ (s.2.2.2 ++ [])) w) ?_ ?_
  ·refine wc_draw mo 10 (fun w =>St w0 [] ([(b8, .cells (BV (crO key nonce (s.1 + 1))) 22), (b7, .cells (BV (star key)) 22), (b4, .cells (BV nonce) 173), (b3, .cells (BV (expand key) ++ BV sboxV) 45)] ++ (s.2.2.2 ++ [])) w) ?_
   have hS := hS.drew
   refine jx hS fun jj =>dx 0 O (by kernel_rfl) (fun w hS =>la 3 ag45 hS O O O O (cat_size (a := 176) (b := 256) (BV_size _) (BV_size _)) rr) jj<|dx 1 O (by kernel_rfl) (fun w hS =>mv O O O rr) jj<|dx 2 O (by kernel_rfl) (fun w hS =>mv O O O rr) jj<|dx 4 O (by kernel_rfl) (fun w hS =>la 0 ag22 hS O O O O (BV_size _) rr) jj<|dx 7 O (by kernel_rfl) (fun w hS =>la 0 ag22 hS O O O O (BV_size _) rr) jj ?_
   refine dl2 3 9 O O (by kernel_rfl) ?_ ?_
   ·refine cv cf158 hS O O O O O (sp_mooringref08_Part a n cap bs s.1 _ _ (by omega) (by first | rfl | omega | (simp; omega) | (simp; done)) (by omega) (hc.st hS) (by omega) (by omega)) fun w hS =>lx hS fun jj =>?_
    refine dl2 5 9 O O (by kernel_rfl) ?_ ?_
    ·refine cv cf155 hS O O O O O (sp_mooringref08_Xor ((blk bs s.1)) ((crO key nonce (s.1 + 1))) _) fun w hS =>lx hS fun jj =>?_
     refine dl2 6 9 O O (by kernel_rfl) ?_ ?_
     ·refine cv cf157 hS O O O O O (sp_mooringref13_Block key ((xorV (blk bs s.1) (crO key nonce (s.1 + 1)))) _) fun w hS =>lx hS fun jj =>?_
      refine dl2 8 9 O O (by kernel_rfl) ?_ ?_
      ·refine cv (v := .agg (BV (deB key nonce bs s.1))) cf155 hS O O O O O (sp_mooringref08_Xor2 ((dec key (xorV (blk bs s.1) (crO key nonce (s.1 + 1))))) ((crO key nonce (s.1 + 1))) _) fun w hS =>lx hS fun jj =>?_
       refine dl 9 O (by kernel_rfl)<|ala zr22 hS O O fun b12 w hb12 hS =>lx hS.tl fun jj =>?_
       refine dl 10 O (by kernel_rfl)<|sa 0 ag22 hS O O O (BV_one _) O (BV_size _) (BV_size _) fun w hS =>ly O<|de (by kernel_rfl) ?_
       exact mmq ⟨b12, rfl, hS⟩ ⟨rfl, rfl, rfl, rfl, rfl, rfl, rfl, rfl, rfl, trivial⟩
      ·refine ala zr22 hS O O fun b12 w hb12 hS =>lx hS.tl fun jj =>?_
       refine dl 8 O (by kernel_rfl)<|cv (v := .agg (BV (deB key nonce bs s.1))) cf155 hS O O O O O (sp_mooringref08_Xor2 ((dec key (xorV (blk bs s.1) (crO key nonce (s.1 + 1))))) ((crO key nonce (s.1 + 1))) _) fun w hS =>lx hS.tl fun jj =>?_
       refine dl 10 O (by kernel_rfl)<|sa 0 ag22 hS O O O (BV_one _) O (BV_size _) (BV_size _) fun w hS =>ly O<|de (by kernel_rfl) ?_
       exact mmq ⟨b12, rfl, hS⟩ ⟨rfl, rfl, rfl, rfl, rfl, rfl, rfl, rfl, rfl, trivial⟩
     ·refine ala zr22 hS O O fun b12 w hb12 hS =>lx hS.tl fun jj =>?_
      refine dl 6 O (by kernel_rfl)<|cv cf157 hS O O O O O (sp_mooringref13_Block key ((xorV (blk bs s.1) (crO key nonce (s.1 + 1)))) _) fun w hS =>lx hS.tl fun jj =>?_
      refine dl 8 O (by kernel_rfl)<|cv (v := .agg (BV (deB key nonce bs s.1))) cf155 hS O O O O O (sp_mooringref08_Xor2 ((dec key (xorV (blk bs s.1) (crO key nonce (s.1 + 1))))) ((crO key nonce (s.1 + 1))) _) fun w hS =>lx hS.tl fun jj =>?_
      refine dl 10 O (by kernel_rfl)<|sa 0 ag22 hS O O O (BV_one _) O (BV_size _) (BV_size _) fun w hS =>ly O<|de (by kernel_rfl) ?_
      exact mmq ⟨b12, rfl, hS⟩ ⟨rfl, rfl, rfl, rfl, rfl, rfl, rfl, rfl, rfl, trivial⟩
    ·refine ala zr22 hS O O fun b12 w hb12 hS =>lx hS.tl fun jj =>?_
     refine dl 5 O (by kernel_rfl)<|cv cf155 hS O O O O O (sp_mooringref08_Xor ((blk bs s.1)) ((crO key nonce (s.1 + 1))) _) fun w hS =>lx hS.tl fun jj =>?_
     refine dl 6 O (by kernel_rfl)<|cv cf157 hS O O O O O (sp_mooringref13_Block key ((xorV (blk bs s.1) (crO key nonce (s.1 + 1)))) _) fun w hS =>lx hS.tl fun jj =>?_
     refine dl 8 O (by kernel_rfl)<|cv (v := .agg (BV (deB key nonce bs s.1))) cf155 hS O O O O O (sp_mooringref08_Xor2 ((dec key (xorV (blk bs s.1) (crO key nonce (s.1 + 1))))) ((crO key nonce (s.1 + 1))) _) fun w hS =>lx hS.tl fun jj =>?_
     refine dl 10 O (by kernel_rfl)<|sa 0 ag22 hS O O O (BV_one _) O (BV_size _) (BV_size _) fun w hS =>ly O<|de (by kernel_rfl) ?_
     exact mmq ⟨b12, rfl, hS⟩ ⟨rfl, rfl, rfl, rfl, rfl, rfl, rfl, rfl, rfl, trivial⟩
   ·refine ala zr22 hS O O fun b12 w hb12 hS =>lx hS.tl fun jj =>?_
    refine dl 3 O (by kernel_rfl)<|cv cf158 hS O O O O O (sp_mooringref08_Part a n cap bs s.1 _ _ (by omega) (by first | rfl | omega | (simp; omega) | (simp; done)) (by omega) (hc.st hS) (by omega) (by omega)) fun w hS =>lx hS.tl fun jj =>?_
    refine dl 5 O (by kernel_rfl)<|cv cf155 hS O O O O O (sp_mooringref08_Xor ((blk bs s.1)) ((crO key nonce (s.1 + 1))) _) fun w hS =>lx hS.tl fun jj =>?_
    refine dl 6 O (by kernel_rfl)<|cv cf157 hS O O O O O (sp_mooringref13_Block key ((xorV (blk bs s.1) (crO key nonce (s.1 + 1)))) _) fun w hS =>lx hS.tl fun jj =>?_
    refine dl 8 O (by kernel_rfl)<|cv (v := .agg (BV (deB key nonce bs s.1))) cf155 hS O O O O O (sp_mooringref08_Xor2 ((dec key (xorV (blk bs s.1) (crO key nonce (s.1 + 1))))) ((crO key nonce (s.1 + 1))) _) fun w hS =>lx hS.tl fun jj =>?_
    refine dl 10 O (by kernel_rfl)<|sa 0 ag22 hS O O O (BV_one _) O (BV_size _) (BV_size _) fun w hS =>ly O<|de (by kernel_rfl) ?_
    exact mmq ⟨b12, rfl, hS⟩ ⟨rfl, rfl, rfl, rfl, rfl, rfl, rfl, rfl, rfl, trivial⟩
  ·rintro _ w ⟨b12, rfl, hS⟩
   refine wc_region<|mv O O O<|a_all un22 ⟨_, sz5⟩ O O O<|app (A := [(b12, .cells (BV (deB key nonce bs s.1)) 22), (b8, .cells (BV (crO key nonce (s.1 + 1))) 22), (b7, .cells (BV (star key)) 22), (b4, .cells (BV nonce) 173), (b3, .cells (BV (expand key) ++ BV sboxV) 45)]) (R := []) sl30 hO hS O O O O (src8 un30 _ (Cel.bv (hS.get 0 O)) Vector.length_toList) (by omega) (by omega) fun a46 c46 X46 w hO46 hS =>?_
   try simp only [c8_app] at hO46
   refine asg O O O<|q_block_norm<|wt<|wc_region<|mv O O O<|addi (by omega) (by omega) O O O O<|asg O O O ?_
   have e16 : s.1 * 16 + 16 = (s.1 + 1) * 16 := by omega
   rw [e16] at hO46 ⊢
   refine again_q (s.1 + 1, a46, c46, X46) ⟨O, O, O, O, O, O, O, lkI O (by first | omega | rfl), trivial⟩ ⟨⟨by omega, hO46⟩, hS.tl⟩ (by omega)
 ·try simp only [SB] at hc1
  have hk4 : s.1 = n / 16 := by omega
  rw [hk4] at hS hO ⊢
  refine wc_exit<|q_then_exit<|q_then_exit<|q_block_hit<|wt ?_
  refine sqj (fun l w =>∃ (b13 : Nat), l = [(2, .slice a n cap), (6, (.slice none 0 0)), (9, .slice s.2.1 (n / 16 * 16) s.2.2.1), (10, I (((n : Nat) : Int) / 16)), (13, Ptr b13 0)] ∧ St w0 [] ([(b13, .cells (BV (enc key (xorV (crO key nonce (n / 16)) (star key)))) 22), (b8, .cells (BV (crO key nonce (n / 16))) 22), (b7, .cells (BV (star key)) 22), (b4, .cells (BV nonce) 173), (b3, .cells (BV (expand key) ++ BV sboxV) 45)] ++ (s.2.2.2 ++ [])) w) ?_ ?_
  ·refine wc_draw mo 6 (fun w =>St w0 [] ([(b8, .cells (BV (crO key nonce (n / 16))) 22), (b7, .cells (BV (star key)) 22), (b4, .cells (BV nonce) 173), (b3, .cells (BV (expand key) ++ BV sboxV) 45)] ++ (s.2.2.2 ++ [])) w) ?_
   have hS := hS.drew
   refine jx hS fun jj =>dx 0 O (by kernel_rfl) (fun w hS =>la 3 ag45 hS O O O O (cat_size (a := 176) (b := 256) (BV_size _) (BV_size _)) rr) jj<|dx 1 O (by kernel_rfl) (fun w hS =>la 0 ag22 hS O O O O (BV_size _) rr) jj<|dx 2 O (by kernel_rfl) (fun w hS =>la 1 ag22 hS O O O O (BV_size _) rr) jj ?_
   refine dl2 3 5 O O (by kernel_rfl) ?_ ?_
   ·refine cv cf155 hS O O O O O (sp_mooringref08_Xor ((crO key nonce (n / 16))) ((star key)) _) fun w hS =>lx hS fun jj =>?_
    refine dl2 4 5 O O (by kernel_rfl) ?_ ?_
    ·refine cv cf159 hS O O O O O (sp_mooringref06_Encrypt key ((xorV (crO key nonce (n / 16)) (star key))) _) fun w hS =>lx hS fun jj =>?_
     refine dl 5 O (by kernel_rfl)<|ala zr22 hS O O fun b13 w hb13 hS =>lx hS.tl fun jj =>?_
     refine dl 6 O (by kernel_rfl)<|sa 0 ag22 hS O O O (BV_one _) O (BV_size _) (BV_size _) fun w hS =>ly O<|de (by kernel_rfl) ?_
     exact mmq ⟨b13, rfl, hS⟩ ⟨rfl, rfl, rfl, rfl, rfl, trivial⟩
    ·refine ala zr22 hS O O fun b13 w hb13 hS =>lx hS.tl fun jj =>?_
     refine dl 4 O (by kernel_rfl)<|cv cf159 hS O O O O O (sp_mooringref06_Encrypt key ((xorV (crO key nonce (n / 16)) (star key))) _) fun w hS =>lx hS.tl fun jj =>?_
     refine dl 6 O (by kernel_rfl)<|sa 0 ag22 hS O O O (BV_one _) O (BV_size _) (BV_size _) fun w hS =>ly O<|de (by kernel_rfl) ?_
     exact mmq ⟨b13, rfl, hS⟩ ⟨rfl, rfl, rfl, rfl, rfl, trivial⟩
   ·refine ala zr22 hS O O fun b13 w hb13 hS =>lx hS.tl fun jj =>?_
    refine dl 3 O (by kernel_rfl)<|cv cf155 hS O O O O O (sp_mooringref08_Xor ((crO key nonce (n / 16))) ((star key)) _) fun w hS =>lx hS.tl fun jj =>?_
    refine dl 4 O (by kernel_rfl)<|cv cf159 hS O O O O O (sp_mooringref06_Encrypt key ((xorV (crO key nonce (n / 16)) (star key))) _) fun w hS =>lx hS.tl fun jj =>?_
    refine dl 6 O (by kernel_rfl)<|sa 0 ag22 hS O O O (BV_one _) O (BV_size _) (BV_size _) fun w hS =>ly O<|de (by kernel_rfl) ?_
    exact mmq ⟨b13, rfl, hS⟩ ⟨rfl, rfl, rfl, rfl, rfl, trivial⟩
  ·rintro _ w ⟨b13, rfl, hS⟩
   refine wc_seq<|rg<|mv O O O<|muli (by omega) (by omega) O O O O<|asg O O O<|wt<|wc_block ?_
   refine wc_loop (σ := (Nat × Option Addr × Nat × List (Nat × Obj))) (fun u =>[(2, .slice a n cap), (6, (.slice none 0 0)), (9, .slice u.2.1 (n / 16 * 16 + u.1) u.2.2.1), (10, I (((n : Nat) : Int) / 16)), (13, Ptr b13 0), (14, I (((16 * (n / 16) + u.1 : Nat) : Int)))])
    (fun u w => (16 * (n / 16) + u.1 ≤ n ∧ Own 1 u.2.1 (n / 16 * 16 + u.1) u.2.2.1 (c8 (deT key nonce bs (n / 16) ++ tlL bs (16 * (n / 16)) (enc key (xorV (crO key nonce (n / 16)) (star key))) u.1)) u.2.2.2) ∧ St w0 [] ([(b13, .cells (BV (enc key (xorV (crO key nonce (n / 16)) (star key)))) 22), (b8, .cells (BV (crO key nonce (n / 16))) 22), (b7, .cells (BV (star key)) 22), (b4, .cells (BV nonce) 173), (b3, .cells (BV (expand key) ++ BV sboxV) 45)] ++ (u.2.2.2 ++ [])) w) (fun u => n - (16 * (n / 16) + u.1)) (0, s.2.1, s.2.2.1, s.2.2.2) ⟨rfl, rfl, rfl, rfl, rfl, rfl, trivial⟩ ⟨⟨by omega, by simpa [tlL] using hO⟩, hS⟩ ?_
   rintro u w ⟨⟨hm, hO⟩, hS⟩
   refine wc_seq<|rg<|mv O O O<|mv O O O<|lens un30 O O O<|lss O O O O<|wt ?_
   refine wc_if O (fun hc2 =>?_) (fun hc2 =>?_)
   ·try simp only [SB] at hc2
    refine wc_skip<|wt<|wc_seq<|wc_block<|wc_draw mo 14 (fun w =>St w0 [] [(b13, .cells (BV (enc key (xorV (crO key nonce (n / 16)) (star key)))) 22), (b8, .cells (BV (crO key nonce (n / 16))) 22), (b7, .cells (BV (star key)) 22), (b4, .cells (BV nonce) 173), (b3, .cells (BV (expand key) ++ BV sboxV) 45)] w)<|have hS := hS.drew; jx (hS.sl 5 31) fun jj =>dx 0 O (by kernel_rfl) (fun w hS =>mv O O O rr) jj<|dx 1 O (by kernel_rfl) (fun w hS =>mv O O O rr) jj<|dx 2 O (by kernel_rfl) (fun w hS =>mv O O O rr) jj<|dx 3 O (by kernel_rfl) (fun w hS =>slx (16 * (n / 16) + u.1) un30 sz5 O O O O (by omega) (by omega) ((hc.st hS).some8 (j := 16 * (n / 16) + u.1) (by first | omega | (simp; done) | (simp; omega))) rr) jj<|dx 4 O (by kernel_rfl) (fun w hS =>ldx sc5 O O O (hc.st hS) (by first | omega | (simp; done) | (simp; omega)) rr) jj<|dx 5 O (by kernel_rfl) (fun w hS =>mv O O O rr) jj ?_
    refine dx 6 O (by kernel_rfl) (fun w hS =>mv O O O rr) jj<|dx 7 O (by kernel_rfl) (fun w hS =>muli (by omega) (by omega) O O O O rr) jj<|dx 8 O (by kernel_rfl) (fun w hS =>subi (by omega) (by omega) O O O O rr) jj<|dx 9 O (by kernel_rfl) (fun w hS =>ian ((16 * (n / 16) + u.1) - (16 * (n / 16))) (((16 * (n / 16) + u.1) - (16 * (n / 16)))) un22 sz5 O O O O (by omega) (by omega) (by omega) rr) jj<|dx 10 O (by kernel_rfl) (fun w hS =>lo 0 sc5 hS O O O O (BV_get _ ((16 * (n / 16) + u.1) - (16 * (n / 16))) (by omega)) rr) jj<|dx 11 O (by kernel_rfl) (fun w hS =>xor8 O O O O rr) jj ?_
    refine dl 12 O (by kernel_rfl)<|bsl (cs := #[U8 ((gl bs (16 * (n / 16) + u.1)) ^^^ (gv (enc key (xorV (crO key nonce (n / 16)) (star key))) ((16 * (n / 16) + u.1) - (16 * (n / 16)))))]) sl30 hS O O O O (by kernel_rfl) fun b72 w hb72 hS =>lx (hS.sl 6 62) fun jj =>?_
    refine dl 13 O (by kernel_rfl)<|app (A := [(b72, .cells (#[U8 ((gl bs (16 * (n / 16) + u.1)) ^^^ (gv (enc key (xorV (crO key nonce (n / 16)) (star key))) ((16 * (n / 16) + u.1) - (16 * (n / 16)))))]) 5), (b13, .cells (BV (enc key (xorV (crO key nonce (n / 16)) (star key)))) 22), (b8, .cells (BV (crO key nonce (n / 16))) 22), (b7, .cells (BV (star key)) 22), (b4, .cells (BV nonce) 173), (b3, .cells (BV (expand key) ++ BV sboxV) 45)]) (R := []) sl30 hO hS O O O O (src8 un30 _ (Cel.lb (l := [(gl bs (16 * (n / 16) + u.1)) ^^^ (gv (enc key (xorV (crO key nonce (n / 16)) (star key))) ((16 * (n / 16) + u.1) - (16 * (n / 16))))]) (hS.get 0 O)) (by first | rfl | omega | (simp; omega) | (simp; done))) (by omega) (by omega) fun a73 c73 X73 w hO73 hS =>?_
    try simp only [c8_app] at hO73
    refine lx (hS.sl 6 62) fun jj =>?_
    refine dl 14 O (by kernel_rfl)<|asg O O O<|ly O<|de (by kernel_rfl)<|q_block_norm<|wt<|wc_region<|mv O O O<|addi (by omega) (by omega) O O O O<|asg O O O ?_
    refine again_q (u.1 + 1, a73, c73, X73) ⟨O, O, O, O, O, lkI O (by first | omega | rfl), trivial⟩ ⟨⟨by omega, by have h := hO73; rw [List.append_assoc] at h; exact h⟩, hS.tl⟩ (by omega)
   ·try simp only [SB] at hc2
    refine wc_exit<|q_then_exit<|q_then_exit<|q_block_hit<|wt<|rg<|mv O O O<|asg O O O<|wt<|wc_ret<|fin1 (v := .slice u.2.1 (n / 16 * 16 + u.1) u.2.2.1) O O ?_
    have hm2 : u.1 = n - 16 * (n / 16) := by omega
    have e : n / 16 * 16 + (n - 16 * (n / 16)) = n := by omega
    rw [hm2, e, decT_1 hn] at hO
    exact ⟨_, _, rfl, ⟨_, _, by rw [hm2, e], hO⟩, hS.sublist (.cons _ (.cons _ (.cons _ (.cons _ (.cons _ (List.sublist_append_left u.2.2.2 []))))))⟩
theorem sp_mooringref13_Open (key : V8 16) (nonce : V8 12) (a : Option Addr) (n cap : Nat) (bs : List UInt8) (a2 : Option Addr) (n2 cap2 : Nat) (bs2 : List UInt8) (w0 : World) (hn : bs.length = n) (hN : n ≤ 1000000) (hc : Cel w0 a (c8 bs)) (hcap : n ≤ cap) (h4 : n ≤ 4000) (hn2 : bs2.length = n2) (hN2 : n2 ≤ 1000000) (he2 : Cel w0 a2 (c8 bs2)) (hcap2 : n2 ≤ cap2) (h42 : n2 ≤ 4000) : Calls Tryz.prog 95 #[.agg (BV (expand key) ++ BV sboxV), .agg (BV nonce), .slice a2 n2 cap2, .slice a n cap] w0 (RetS w0 (fun v X => ∃ a' n' c', v = .tuple #[.slice a' n' c', I ((opnE key nonce bs2 bs : Nat) : Int)] ∧ Own 1 a' n' c' (c8 (if opnE key nonce bs2 bs = 0 then opnT key nonce bs else [])) X)) := by
 refine enter (args := [.agg (BV (expand key) ++ BV sboxV), .agg (BV nonce), .slice a2 n2 cap2, .slice a n cap]) Tryz.func95 O O<|startw fun w hS =>rg<|bxa hS O O O fun b4 w hb4 hS =>bxa hS O O O fun b5 w hb5 hS =>asg O O O<|asg O O O<|wt<|wc_seq<|rg<|mv O O O<|lens un30 O O O ?_
 refine lss O O O O<|wt ?_
 refine wc_if O (fun hc1 =>?_) (fun hc1 =>?_)
 ·try simp only [SB] at hc1
  refine rg<|asg O O O<|asg O O O<|wt<|wc_ret<|q_then_ret<|fin2 (v := (.slice none 0 0)) (u := I 1) O O O ?_
  have he : opnE key nonce bs2 bs = 1 := opnR_s hn (by omega)
  rw [he]
  exact ⟨_, [], rfl, ⟨none, 0, 0, rfl, Own.nil 1⟩, hS.drop⟩
 ·try simp only [SB] at hc1
  refine wc_skip<|wt<|rd mo 8 (fun w =>St w0 [] [(b5, .cells (BV nonce) 173), (b4, .cells (BV (expand key) ++ BV sboxV) 45)] w)<|have hS := hS.drew; jx hS fun jj =>dx 0 O (by kernel_rfl) (fun w hS =>la 1 ag45 hS O O O O (cat_size (a := 176) (b := 256) (BV_size _) (BV_size _)) rr) jj<|dx 1 O (by kernel_rfl) (fun w hS =>la 0 ag173 hS O O O O (BV_size _) rr) jj<|dx 2 O (by kernel_rfl) (fun w hS =>mv O O O rr) jj<|dx 3 O (by kernel_rfl) (fun w hS =>mv O O O rr) jj<|dx 4 O (by kernel_rfl) (fun w hS =>lens un30 O O O rr) jj<|dx 5 O (by kernel_rfl) (fun w hS =>subi (by omega) (by omega) O O O O rr) jj<|dx 6 O (by kernel_rfl) (fun w hS =>s_h ((n - 16)) un30 ⟨_, sz5⟩ O O O O (by omega) (by omega) rr) jj ?_
  refine dl 7 O (by kernel_rfl)<|cs cf123 hS O O O O O (sp_mooringref13_Decrypt key nonce a ((n - 16)) cap (((bs).take (n - 16))) _ (by first | rfl | omega | (simp; omega) | (simp; done)) (by omega) ((hc.st hS).take8 (n - 16)) (by omega) (by omega)) ?_
  rintro _ X21 w ⟨a21, c21, rfl, hO21⟩ hS
  have hS := St.tailin (X := X21) hS [(b5, .cells (BV nonce) 173), (b4, .cells (BV (expand key) ++ BV sboxV) 45)] [] rfl
  have hl21 := hO21.le
  refine lx (St.untail (A := [(b5, .cells (BV nonce) 173), (b4, .cells (BV (expand key) ++ BV sboxV) 45)]) (X := X21) (R := []) hS) fun jj =>?_
  refine dl 8 O (by kernel_rfl)<|asg O O O<|ly O<|de (by kernel_rfl)<|wt<|wc_seq<|rg<|la 1 ag45 hS O O O O (cat_size (a := 176) (b := 256) (BV_size _) (BV_size _))<|la 0 ag173 hS O O O O (BV_size _)<|mv O O O<|mv O O O<|cs cf101 hS O O O O O (sp_mooringref12_Seal key nonce a21 ((n - 16)) c21 ((decT key nonce ((bs).take (n - 16)))) a2 n2 cap2 bs2 _ hO21.len8 (by omega) (hO21.cel hS (fun p hp =>by simp [hp])) (by omega) (by omega) (by first | rfl | omega | (simp; omega) | (simp; done)) (by omega) (he2.st hS) (by omega) (by omega)) ?_
  rintro _ X26 w ⟨a26, c26, rfl, hO26⟩ hS
  have hS := St.tailin (X := X26) hS [(b5, .cells (BV nonce) 173), (b4, .cells (BV (expand key) ++ BV sboxV) 45)] (X21 ++ []) rfl
  have hl26 := hO26.le
  refine mv O O O<|cv cf19 hS O O O O O (sp_mooringref01_Same a26 (((n - 16) + 16)) c26 ((sealV key nonce bs2 (decT key nonce ((bs).take (n - 16))))) a n cap bs _ hO26.len8 (by omega) (hO26.cel hS (fun p hp =>by simp [hp])) (by first | rfl | omega | (simp; omega) | (simp; done)) (by omega) (hc.st hS)) fun w hS =>notb O O O<|wt ?_
  refine wc_if O (fun hc2 =>?_) (fun hc2 =>?_)
  ·try simp only [SB] at hc2
   have he0 := hc2
   refine rg<|asg O O O<|asg O O O<|wt<|wc_ret<|q_then_ret<|fin2 (v := (.slice none 0 0)) (u := I 3) O O O ?_
   have he : opnE key nonce bs2 bs = 3 := opnR_f hn (by omega) (by simpa using he0)
   rw [he]
   exact ⟨_, [], rfl, ⟨none, 0, 0, rfl, Own.nil 1⟩, hS.drop⟩
  ·try simp only [SB] at hc2
   have he0 := hc2
   refine wc_skip<|wt<|rg<|mv O O O<|asg O O O<|asg O O O<|wt<|wc_ret<|fin2 (v := .slice a21 (n - 16) c21) (u := I 0) O O O ?_
   have he : opnE key nonce bs2 bs = 0 := opnR_t hn (by omega) (by simpa using he0)
   exact ⟨_, X21, rfl, ⟨_, _, _, by rw [he]; rfl, opn_o0 hn he hO21⟩, hS.sublist (.cons _ (.cons _ ((List.sublist_append_left X21 []).trans (List.sublist_append_right X26 _))))⟩
end Go.Proofs.XS
