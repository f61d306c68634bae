/- Part 4 of the ground of this seat's proofs: rules of a calculus of walks, and what the functions of the lower layers compute; no conditions beyond those that each statement bears. -/
import Derived.Test.YtdcophmboncacaaGreatDoorBase3
import Derived.Shelf.Small.Utf8
import Derived.Shelf.Small.Strs
import Derived.Shelf.Strings.Search1
import Derived.Shelf.GgClosure.StringsIndexFunc
import Derived.Ground.GgwProg
import Derived.Shelf.GgClosure.StringsIndexFuncTop
import Derived.Shelf.Strings.Runes
import Derived.Shelf.Strings.FuncGrows
import Derived.Test.YtdcophmboncacaaGreatDoorProg
set_option linter.unusedVariables false
set_option linter.unusedSimpArgs false
set_option linter.unnecessarySimpa false
set_option linter.defProp false
set_option maxRecDepth 100000
set_option maxHeartbeats 2000000
namespace Go.Proofs.XS
open Go Go.X Go.Proofs
theorem sp_fast_words (b : V8 16) (w0 : World) : Calls Tryz.prog 75 #[.agg (BV b)] w0 (Ret w0 (.agg (WV (wds b)))) := by
 refine enter (args := [.agg (BV b)]) Tryz.func75 O O<|startw fun w hS =>rg<|bxa hS O O O fun b1 w hb1 hS =>ala zr144 hS O O fun b2 w hb2 hS =>wt<|rg<|ala zr144 hS O O fun b3 w hb3 hS =>wt<|wc_seq<|rg<|mv O O O ?_
 refine wt<|wc_block ?_
 refine wc_loop (σ := Nat) (fun k =>[(1, Ptr b1 0), (2, Ptr b2 0), (3, Ptr b3 0), (5, I ((k : Int)))])
  (fun k w => (k ≤ 4) ∧ St w0 [] [(b3, .cells (WV (fill32 4 (wdf b) (Vector.replicate 4 0) k)) 144), (b2, .cells (WV (Vector.replicate 4 0)) 144), (b1, .cells (BV b) 22)] w) (fun k => 4 - k) 0 ⟨rfl, rfl, rfl, rfl, trivial⟩ ⟨by omega, (by simp only [Nat.zero_mul, Nat.add_zero, fill8_0, fill32_0]; exact hS)⟩ ?_
 rintro k w ⟨hk, hS⟩
 refine rg<|lss O O O O<|wt<|wc_seq ?_
 refine wc_if O (fun hc1 =>?_) (fun hc1 =>?_)
 ·try simp only [SB] at hc1
  refine wc_skip<|wt<|wc_seq<|wc_block<|rg<|mv O O O<|asg O O O<|wt<|wc_draw mo 21 (fun w =>St w0 [] [(b3, .cells (WV (fill32 4 (wdf b) (Vector.replicate 4 0) k)) 144), (b2, .cells (WV (Vector.replicate 4 0)) 144), (b1, .cells (BV b) 22)] w)<|have hS := hS.drew; jx hS fun jj =>dx 0 O (by kernel_rfl) (fun w hS =>mv O O O rr) jj<|dx 1 O (by kernel_rfl) (fun w hS =>mv O O O rr) jj ?_
  refine dx 2 O (by kernel_rfl) (fun w hS =>muli (by omega) (by omega) O O O O rr) jj<|dx 3 O (by kernel_rfl) (fun w hS =>ian (4 * k) ((4 * k)) un22 sz5 O O O O (by omega) (by omega) (by omega) rr) jj<|dx 4 O (by kernel_rfl) (fun w hS =>lo 2 sc5 hS O O O O (BV_get _ (4 * k) (by omega)) rr) jj<|dx 5 O (by kernel_rfl) (fun w hS =>mv O O O rr) jj<|dx 6 O (by kernel_rfl) (fun w hS =>muli (by omega) (by omega) O O O O rr) jj<|dx 7 O (by kernel_rfl) (fun w hS =>addi (by omega) (by omega) O O O O rr) jj<|dx 8 O (by kernel_rfl) (fun w hS =>ian ((4 * k) + 1) (((4 * k) + 1)) un22 sz5 O O O O (by omega) (by omega) (by omega) rr) jj<|dx 9 O (by kernel_rfl) (fun w hS =>lo 2 sc5 hS O O O O (BV_get _ ((4 * k) + 1) (by omega)) rr) jj<|dx 10 O (by kernel_rfl) (fun w hS =>mv O O O rr) jj<|dx 11 O (by kernel_rfl) (fun w hS =>muli (by omega) (by omega) O O O O rr) jj<|dx 12 O (by kernel_rfl) (fun w hS =>addi (by omega) (by omega) O O O O rr) jj<|dx 13 O (by kernel_rfl) (fun w hS =>ian ((4 * k) + 2) (((4 * k) + 2)) un22 sz5 O O O O (by omega) (by omega) (by omega) rr) jj ?_
  refine dx 14 O (by kernel_rfl) (fun w hS =>lo 2 sc5 hS O O O O (BV_get _ ((4 * k) + 2) (by omega)) rr) jj<|dx 15 O (by kernel_rfl) (fun w hS =>mv O O O rr) jj<|dx 16 O (by kernel_rfl) (fun w hS =>muli (by omega) (by omega) O O O O rr) jj<|dx 17 O (by kernel_rfl) (fun w hS =>addi (by omega) (by omega) O O O O rr) jj<|dx 18 O (by kernel_rfl) (fun w hS =>ian ((4 * k) + 3) (((4 * k) + 3)) un22 sz5 O O O O (by omega) (by omega) (by omega) rr) jj<|dx 19 O (by kernel_rfl) (fun w hS =>lo 2 sc5 hS O O O O (BV_get _ ((4 * k) + 3) (by omega)) rr) jj ?_
  refine dl 20 O (by kernel_rfl)<|cv cf109 hS O O O O O (sp_fast_column ((gv b (4 * k))) ((gv b ((4 * k) + 1))) ((gv b ((4 * k) + 2))) ((gv b ((4 * k) + 3))) _) fun w hS =>lx hS fun jj =>?_
  refine dl 21 O (by kernel_rfl)<|ian k k un144 sz72 O O O O (by omega) (by omega) (by omega)<|ly O ?_
  refine dl 22 O (by kernel_rfl)<|st (cs' := WV (fill32 4 (wdf b) (Vector.replicate 4 0) (k + 1))) 0 sz72 hS O O O O O O (by rw [WV_size]; omega) (by rw [WV_set]; exact congrArg WV (fill32_succ (wdf b) (Vector.replicate 4 0) k)) fun w hS =>ly O<|de (by kernel_rfl)<|q_block_norm<|wt<|wc_region<|addi (by omega) (by omega) O O O O<|mv O O O ?_
  refine again_q (k + 1) ⟨O, O, O, lkI O (by first | omega | rfl), trivial⟩ ⟨by omega, hS⟩ (by omega)
 ·try simp only [SB] at hc1
  refine wc_exit<|q_then_exit<|q_then_exit<|q_block_hit<|wt<|rg<|la 0 ag144 hS O O O O (WV_size _)<|sa 1 ag144 hS O O O (WV_one _) O (WV_size _) (WV_size _) fun w hS =>wt<|wc_ret<|fin1 (v := .agg (WV (fill32 4 (wdf b) (Vector.replicate 4 0) k))) O ⟨_, O, lv_a ag144 (hS.get 1 O) (WV_size _)⟩ ?_
  refine ⟨?_, hS.drop⟩
  have hk4 : k = 4 := by omega
  subst hk4; rw [fill32_n]; rfl
theorem sp_sbox_Back (a : UInt8) (w0 : World) : Calls Tryz.prog 108 #[U8 a] w0 (Ret w0 (U8 (back a))) := by
 refine enter (args := [U8 a]) Tryz.func108 O O<|startw fun w hS =>rg<|asg O O O<|wt<|wc_seq<|rg<|cv cf131 hS O O O O O (sp_sbox_table _) fun w hS =>mv O O O<|wt<|wc_block ?_
 refine wc_loop (σ := Nat) (fun k =>[(0, U8 a), (5, .agg (BV sboxV)), (6, I ((k : Int)))])
  (fun k w => (k ≤ 256 ∧ backL a (256 - k) k = back a) ∧ St w0 [] [] w) (fun k => 256 - k) 0 ⟨rfl, rfl, rfl, trivial⟩ ⟨⟨by omega, rfl⟩, hS⟩ ?_
 rintro k w ⟨⟨hk, hk2⟩, hS⟩
 refine rg<|lss O O O O<|wt<|wc_seq ?_
 refine wc_if O (fun hc1 =>?_) (fun hc1 =>?_)
 ·try simp only [SB] at hc1
  obtain ⟨m, hm⟩ : ∃ m, 256 - k = m + 1 := ⟨255 - k, by omega⟩
  have hm2 : 256 - (k + 1) = m := by omega
  rw [hm] at hk2
  simp only [backL] at hk2
  refine wc_skip<|wt<|wc_seq<|wc_block<|rg<|mv O O O<|ixn k un43 sz5 sc5 O O O O (by omega) (by omega) (BV_get _ k (by omega))<|asg O O O<|asg O O O<|wt<|rg<|mv O O O ?_
  refine mv O O O<|eqi O O O O<|wt ?_
  refine wc_if O (fun hc2 =>?_) (fun hc2 =>?_)
  ·try simp only [SB] at hc2
   have he : gv sboxV k = a := UInt8.toNat_inj.1 (by omega)
   rw [if_pos he] at hk2
   have hk4 : toU8 (k : Int) = UInt8.ofNat k := toU8_nat k
   refine rg<|mv O O O<|cvu8 un5 ⟨_, un3⟩ O O O<|asg O O O<|wt<|wc_ret<|q_block_ret<|q_then_ret<|q_then_ret<|q_block_ret<|q_then_ret<|fin1 (v := U8 (toU8 ((k : Int)))) O O ?_
   refine ⟨?_, hS.drop⟩
   rw [hk4, hk2]
  ·try simp only [SB] at hc2
   have he : ¬ gv sboxV k = a := fun e => by rw [e] at hc2; exact hc2 rfl
   rw [if_neg he] at hk2
   refine wc_skip<|q_block_norm<|wt<|wc_region<|addi (by omega) (by omega) O O O O<|mv O O O ?_
   refine again_q (k + 1) ⟨O, O, lkI O (by first | omega | rfl), trivial⟩ ⟨⟨by omega, by rw [hm2]; exact hk2⟩, hS⟩ (by omega)
 ·try simp only [SB] at hc1
  have hz : 256 - k = 0 := by omega
  rw [hz] at hk2
  simp only [backL] at hk2
  refine wc_exit<|q_then_exit<|q_then_exit<|q_block_hit<|wt<|rg<|asg O O O<|wt<|wc_ret<|fin1 (v := U8 0) O O ?_
  refine ⟨?_, hS.drop⟩
  rw [← hk2]
theorem sp_fast_fill (w0 : World) : Calls Tryz.prog 73 #[] w0 (Ret w0 (.agg (WV fwdT ++ WV bckT))) := by
 refine enter (args := []) Tryz.func73 O O<|startw fun w hS =>rg<|ala zr142 hS O O fun b0 w hb0 hS =>wt<|wc_seq<|rg<|mv O O O<|wt<|wc_block ?_
 refine wc_loop (σ := Nat) (fun k =>[(0, Ptr b0 0), (4, I ((k : Int)))])
  (fun k w => (k ≤ 256) ∧ St w0 [] [(b0, .cells (WV (fill32 256 fwdTf (Vector.replicate 256 0) k) ++ WV (fill32 256 bckTf (Vector.replicate 256 0) k)) 142)] w) (fun k => 256 - k) 0 ⟨rfl, rfl, trivial⟩ ⟨by omega, (by simp only [Nat.zero_mul, Nat.add_zero, fill8_0, fill32_0]; exact hS)⟩ ?_
 rintro k w ⟨hk, hS⟩
 refine rg<|lss O O O O<|wt<|wc_seq ?_
 refine wc_if O (fun hc1 =>?_) (fun hc1 =>?_)
 ·try simp only [SB] at hc1
  refine wc_skip<|wt<|wc_seq<|wc_block<|rg<|mv O O O<|asg O O O<|wt<|rg<|mv O O O<|cvu8 un5 ⟨_, un3⟩ O O O<|cv cf107 hS O O O O O (sp_sbox_S ((toU8 ((k : Int)))) _) fun w hS =>?_
  refine mv O O O<|cvu8 un5 ⟨_, un3⟩ O O O<|cv cf108 hS O O O O O (sp_sbox_Back ((toU8 ((k : Int)))) _) fun w hS =>asg O O O<|asg O O O<|wt<|rg<|mv O O O<|mv O O O<|cv cf110 hS O O O O O (sp_field_Mul ((sbox (toU8 ((k : Int))))) 2 _) fun w hS =>mv O O O<|mv O O O ?_
  refine mv O O O<|cv cf110 hS O O O O O (sp_field_Mul ((sbox (toU8 ((k : Int))))) 3 _) fun w hS =>cv cf109 hS O O O O O (sp_fast_column ((mul (sbox (toU8 ((k : Int)))) 2)) ((sbox (toU8 ((k : Int))))) ((sbox (toU8 ((k : Int))))) ((mul (sbox (toU8 ((k : Int)))) 3)) _) fun w hS =>fan 0 0 un142 O sz140 (by decide) O O O O (by omega)<|ian k k un140 sz72 O O O O (by omega) (by omega) (by omega)<|st (cs' := WV (fill32 256 fwdTf (Vector.replicate 256 0) (k + 1)) ++ WV (fill32 256 bckTf (Vector.replicate 256 0) k)) 0 sz72 hS O O O O O O (lt_sz (cat_size (a := 256) (b := 256) (WV_size _) (WV_size _)) (by omega)) (cat_sl (WV_size _) (by omega) (by rw [WV_set, toU8_nat]; exact congrArg WV (fill32_succ fwdTf (Vector.replicate 256 0) k))) fun w hS =>wt<|wc_region<|mv O O O<|mv O O O<|cv cf110 hS O O O O O (sp_field_Mul ((back (toU8 ((k : Int))))) 14 _) fun w hS =>mv O O O ?_
  refine cv cf110 hS O O O O O (sp_field_Mul ((back (toU8 ((k : Int))))) 9 _) fun w hS =>mv O O O<|cv cf110 hS O O O O O (sp_field_Mul ((back (toU8 ((k : Int))))) 13 _) fun w hS =>mv O O O<|cv cf110 hS O O O O O (sp_field_Mul ((back (toU8 ((k : Int))))) 11 _) fun w hS =>cv cf109 hS O O O O O (sp_fast_column ((mul (back (toU8 ((k : Int)))) 14)) ((mul (back (toU8 ((k : Int)))) 9)) ((mul (back (toU8 ((k : Int)))) 13)) ((mul (back (toU8 ((k : Int)))) 11)) _) fun w hS =>fan 256 256 un142 O sz140 (by decide) O O O O (by omega)<|ian k (256 + k) un140 sz72 O O O O (by omega) (by omega) (by omega)<|st (cs' := WV (fill32 256 fwdTf (Vector.replicate 256 0) (k + 1)) ++ WV (fill32 256 bckTf (Vector.replicate 256 0) (k + 1))) 0 sz72 hS O O O O O O (lt_sz (cat_size (a := 256) (b := 256) (WV_size _) (WV_size _)) (by omega)) (cat_sr (o' := k) (WV_size _) (by omega) (by rw [WV_set, toU8_nat]; exact congrArg WV (fill32_succ bckTf (Vector.replicate 256 0) k))) fun w hS =>q_block_norm<|wt<|wc_region ?_
  refine addi (by omega) (by omega) O O O O<|mv O O O ?_
  refine again_q (k + 1) ⟨O, lkI O (by first | omega | rfl), trivial⟩ ⟨by omega, hS⟩ (by omega)
 ·try simp only [SB] at hc1
  refine wc_exit<|q_then_exit<|q_then_exit<|q_block_hit<|wt<|rg<|la 0 ag142 hS O O O O (cat_size (a := 256) (b := 256) (WV_size _) (WV_size _))<|sa 0 ag142 hS O O O (cat_one (WV_one _) (WV_one _)) O (cat_size (a := 256) (b := 256) (WV_size _) (WV_size _)) (cat_size (a := 256) (b := 256) (WV_size _) (WV_size _)) fun w hS =>wt<|wc_ret<|fin1 (v := .agg (WV (fill32 256 fwdTf (Vector.replicate 256 0) k) ++ WV (fill32 256 bckTf (Vector.replicate 256 0) k))) O ⟨_, O, lv_a ag142 (hS.get 0 O) (cat_size (a := 256) (b := 256) (WV_size _) (WV_size _))⟩ ?_
  refine ⟨?_, hS.drop⟩
  have hk4 : k = 256 := by omega
  subst hk4; rw [fill32_n, fill32_n]; rfl
theorem sp_fast_New (key : V8 16) (w0 : World) : Calls Tryz.prog 27 #[.agg (BV key)] w0 (RetS w0 (fun v L => ∃ c, v = Ptr c 0 ∧ L = [(c, .cells (cipherC key) 147)])) := by
 refine enter (args := [.agg (BV key)]) Tryz.func27 O O<|startw fun w hS =>rg<|bxa hS O O O fun b1 w hb1 hS =>asg O O O<|wt<|rd mo 4 (fun w =>St w0 [] [(b1, .cells (BV key) 22)] w)<|have hS := hS.drew; jx hS fun jj =>dx 0 O (by kernel_rfl) (fun w hS =>la 0 ag22 hS O O O O (BV_size _) rr) jj ?_
 refine dl 1 O (by kernel_rfl)<|cv cf73 hS O O O O O (sp_fast_fill _) fun w hS =>lx hS fun jj =>dx 2 O (by kernel_rfl) (fun w hS =>bd (cs := #[.bool (true)] ++ (WV (Vector.replicate 44 0) ++ (WV (Vector.replicate 44 0) ++ (BV key ++ (WV fwdT ++ WV bckT))))) O O O ((bu147 _).trans (fill_1 (off := 0) O O (le_sz (a := 617) (cat_size (a := 1) (b := 616) O (cat_size (a := 44) (b := 572) (WV_size _) (cat_size (a := 44) (b := 528) (WV_size _) (cat_size (a := 16) (b := 512) (BV_size _) (cat_size (a := 256) (b := 256) (WV_size _) (WV_size _)))))) (by omega)) (cat_sl (a := 1) O (by omega) O)<|fill_w (off := 89) (size := 16) O (BV_size _) (le_sz (a := 617) (cat_size (a := 1) (b := 616) O (cat_size (a := 44) (b := 572) (WV_size _) (cat_size (a := 44) (b := 528) (WV_size _) (cat_size (a := 16) (b := 512) (BV_size _) (cat_size (a := 256) (b := 256) (WV_size _) (WV_size _)))))) (by omega)) (cat_pr (a := 1) (o' := 88) O (by omega) (ple2 (BV_size _) (cat_size (a := 44) (b := 572) (WV_size _) (cat_size (a := 44) (b := 528) (WV_size _) (cat_size (a := 16) (b := 512) (BV_size _) (cat_size (a := 256) (b := 256) (WV_size _) (WV_size _))))) (by omega)) (cat_pr (a := 44) (o' := 44) (WV_size _) (by omega) (ple2 (BV_size _) (cat_size (a := 44) (b := 528) (WV_size _) (cat_size (a := 16) (b := 512) (BV_size _) (cat_size (a := 256) (b := 256) (WV_size _) (WV_size _)))) (by omega)) (cat_pr (a := 44) (o' := 0) (WV_size _) (by omega) (ple2 (BV_size _) (cat_size (a := 16) (b := 512) (BV_size _) (cat_size (a := 256) (b := 256) (WV_size _) (WV_size _))) (by omega)) (cat_pl (a := 16) (BV_size _) (ple (BV_size _) (by omega)) (put_all (BV_size _) (BV_size _))))))<|fill_w (off := 105) (size := 512) O (cat_size (a := 256) (b := 256) (WV_size _) (WV_size _)) (le_sz (a := 617) (cat_size (a := 1) (b := 616) O (cat_size (a := 44) (b := 572) (WV_size _) (cat_size (a := 44) (b := 528) (WV_size _) (cat_size (a := 16) (b := 512) (BV_size _) (cat_size (a := 256) (b := 256) (WV_size _) (WV_size _)))))) (by omega)) (cat_pr (a := 1) (o' := 104) O (by omega) (ple2 (cat_size (a := 256) (b := 256) (WV_size _) (WV_size _)) (cat_size (a := 44) (b := 572) (WV_size _) (cat_size (a := 44) (b := 528) (WV_size _) (cat_size (a := 16) (b := 512) (BV_size _) (cat_size (a := 256) (b := 256) (WV_size _) (WV_size _))))) (by omega)) (cat_pr (a := 44) (o' := 60) (WV_size _) (by omega) (ple2 (cat_size (a := 256) (b := 256) (WV_size _) (WV_size _)) (cat_size (a := 44) (b := 528) (WV_size _) (cat_size (a := 16) (b := 512) (BV_size _) (cat_size (a := 256) (b := 256) (WV_size _) (WV_size _)))) (by omega)) (cat_pr (a := 44) (o' := 16) (WV_size _) (by omega) (ple2 (cat_size (a := 256) (b := 256) (WV_size _) (WV_size _)) (cat_size (a := 16) (b := 512) (BV_size _) (cat_size (a := 256) (b := 256) (WV_size _) (WV_size _))) (by omega)) (cat_pr (a := 16) (o' := 0) (BV_size _) (by omega) (ple2 (cat_size (a := 256) (b := 256) (WV_size _) (WV_size _)) (cat_size (a := 256) (b := 256) (WV_size _) (WV_size _)) (by omega)) (put_all (cat_size (a := 256) (b := 256) (WV_size _) (WV_size _)) (cat_size (a := 256) (b := 256) (WV_size _) (WV_size _)))))))<|O)) rr) jj ?_
 refine dl 3 O (by kernel_rfl)<|bxa hS O O O fun b9 w hb9 hS =>lx hS.tl fun jj =>?_
 refine dl 4 O (by kernel_rfl)<|asg O O O<|ly O<|de (by kernel_rfl)<|wt<|wc_seq<|rg<|la 1 ag22 hS O O O O (BV_size _)<|cv cf74 hS O O O O O (sp_keys_Expand key _) fun w hS =>mv O O O<|wt<|wc_block ?_
 refine wc_loop (σ := Nat) (fun k =>[(2, (.pointer none)), (3, Ptr b9 0), (11, .agg (BV (expand key))), (12, I ((k : Int)))])
  (fun k w => (k ≤ 11) ∧ St w0 [] [(b9, .cells (#[.bool (true)] ++ (WV (fwK key k) ++ (WV (bkK key k) ++ (BV key ++ (WV fwdT ++ WV bckT))))) 147), (b1, .cells (BV key) 22)] w) (fun k => 11 - k) 0 ⟨rfl, rfl, rfl, rfl, trivial⟩ ⟨by omega, hS⟩ ?_
 rintro k w ⟨hk, hS⟩
 refine rg<|lss O O O O<|wt<|wc_seq ?_
 refine wc_if O (fun hc1 =>?_) (fun hc1 =>?_)
 ·try simp only [SB] at hc1
  refine wc_skip<|wt<|wc_seq<|wc_block<|rg<|mv O O O<|ixpn (u := .agg (BV (seg8 16 (expand key) ((k) * 16)))) k un42 ag22 O O O O (by omega) (by omega) (BV_extract 16 _ ((k) * 16) (by omega)) O<|ala zr22 hS O O fun b5 w hb5 hS =>asg O O O<|sa 0 ag22 hS O O O (BV_one _) O (BV_size _) (BV_size _) fun w hS =>wt<|rd mo 8 (fun w =>St w0 [] [(b5, .cells (BV (seg8 16 (expand key) ((k) * 16))) 22)] w) ?_
  have hS := hS.drew
  refine jx (hS.sl 1 1) fun jj =>dx 0 O (by kernel_rfl) (fun w hS =>mv O O O rr) jj<|dx 1 O (by kernel_rfl) (fun w hS =>mv O O O rr) jj<|dx 2 O (by kernel_rfl) (fun w hS =>la 0 ag22 hS O O O O (BV_size _) rr) jj<|dx 4 O (by kernel_rfl) (fun w hS =>nilp O O O rr) jj<|dx 5 O (by kernel_rfl) (fun w hS =>fan 1 1 un147 O sz145 (by decide) O O O O (by omega) rr) jj ?_
  refine dl 3 O (by kernel_rfl)<|cv cf75 hS O O O O O (sp_fast_words ((seg8 16 (expand key) ((k) * 16))) _) fun w hS =>lx (hS.sl 1 1) fun jj =>dx 6 O (by kernel_rfl) (fun w hS =>ian k (1 + k * 4) un145 sz144 O O O O (by omega) (by omega) (by omega) rr) jj ?_
  refine dl 7 O (by kernel_rfl)<|spp (cs' := #[.bool (true)] ++ (WV (put32 (fwK key k) (k * 4) (wds (seg8 16 (expand key) ((k) * 16)))) ++ (WV (bkK key k) ++ (BV key ++ (WV fwdT ++ WV bckT))))) 1 ag144 hS O O O (WV_one _) O (le_sz (a := 617) (cat_size (a := 1) (b := 616) O (cat_size (a := 44) (b := 572) (WV_size _) (cat_size (a := 44) (b := 528) (WV_size _) (cat_size (a := 16) (b := 512) (BV_size _) (cat_size (a := 256) (b := 256) (WV_size _) (WV_size _)))))) (by omega)) (WV_size _) (cat_pr (a := 1) (o' := k * 4) O (by omega) (ple2 (WV_size _) (cat_size (a := 44) (b := 572) (WV_size _) (cat_size (a := 44) (b := 528) (WV_size _) (cat_size (a := 16) (b := 512) (BV_size _) (cat_size (a := 256) (b := 256) (WV_size _) (WV_size _))))) (by omega)) (cat_pl (a := 44) (WV_size _) (ple (WV_size _) (by omega)) (WV_put _ _ _ (by omega)))) fun w hS =>lx (hS.sl 1 1) fun jj =>de (by kernel_rfl)<|wt<|wc_seq<|rg<|mv O O O<|gtr O O O O<|mv O O O ?_
  refine spl 25 O (fun hb1 =>?_) (fun hb1 =>?_)
  ·try simp only [SB] at hb1
   refine mv O O O<|lss O O O O<|pk_t O O O O<|wt ?_
   refine wc_if O (fun hc2 =>?_) (fun hc2 =>?_)
   ·try simp only [SB] at hc2
    refine wc_region<|la 0 ag22 hS O O O O (BV_size _)<|cv cf76 hS O O O O O (sp_cipher_Unmix ((seg8 16 (expand key) ((k) * 16))) _) fun w hS =>sa 0 ag22 hS O O O (BV_one _) O (BV_size _) (BV_size _) fun w hS =>wt<|wc_draw mo 9 (fun w =>St w0 [] [(b5, .cells (BV (unmix (seg8 16 (expand key) ((k) * 16)))) 22)] w)<|have hS := hS.drew; jx (hS.sl 1 1) fun jj =>dx 0 O (by kernel_rfl) (fun w hS =>mv O O O rr) jj<|dx 1 O (by kernel_rfl) (fun w hS =>mv O O O rr) jj<|dx 2 O (by kernel_rfl) (fun w hS =>subi (by omega) (by omega) O O O O rr) jj<|dx 3 O (by kernel_rfl) (fun w hS =>la 0 ag22 hS O O O O (BV_size _) rr) jj<|dx 5 O (by kernel_rfl) (fun w hS =>nilp O O O rr) jj ?_
    refine dx 6 O (by kernel_rfl) (fun w hS =>fan 45 45 un147 O sz145 (by decide) O O O O (by omega) rr) jj ?_
    refine dl 4 O (by kernel_rfl)<|cv cf75 hS O O O O O (sp_fast_words ((unmix (seg8 16 (expand key) ((k) * 16)))) _) fun w hS =>lx (hS.sl 1 1) fun jj =>dx 7 O (by kernel_rfl) (fun w hS =>ian (10 - k) (45 + (10 - k) * 4) un145 sz144 O O O O (by omega) (by omega) (by omega) rr) jj ?_
    refine dl 8 O (by kernel_rfl)<|spp (cs' := #[.bool (true)] ++ (WV (put32 (fwK key k) (k * 4) (wds (seg8 16 (expand key) ((k) * 16)))) ++ (WV (put32 (bkK key k) ((10 - k) * 4) (wds (unmix (seg8 16 (expand key) ((k) * 16))))) ++ (BV key ++ (WV fwdT ++ WV bckT))))) 1 ag144 hS O O O (WV_one _) O (le_sz (a := 617) (cat_size (a := 1) (b := 616) O (cat_size (a := 44) (b := 572) (WV_size _) (cat_size (a := 44) (b := 528) (WV_size _) (cat_size (a := 16) (b := 512) (BV_size _) (cat_size (a := 256) (b := 256) (WV_size _) (WV_size _)))))) (by omega)) (WV_size _) (cat_pr (a := 1) (o' := 44 + (10 - k) * 4) O (by omega) (ple2 (WV_size _) (cat_size (a := 44) (b := 572) (WV_size _) (cat_size (a := 44) (b := 528) (WV_size _) (cat_size (a := 16) (b := 512) (BV_size _) (cat_size (a := 256) (b := 256) (WV_size _) (WV_size _))))) (by omega)) (cat_pr (a := 44) (o' := (10 - k) * 4) (WV_size _) (by omega) (ple2 (WV_size _) (cat_size (a := 44) (b := 528) (WV_size _) (cat_size (a := 16) (b := 512) (BV_size _) (cat_size (a := 256) (b := 256) (WV_size _) (WV_size _)))) (by omega)) (cat_pl (a := 44) (WV_size _) (ple (WV_size _) (by omega)) (WV_put _ _ _ (by omega))))) fun w hS =>lx (hS.sl 1 1) fun jj =>de (by kernel_rfl)<|q_block_norm<|wt<|wc_region<|addi (by omega) (by omega) O O O O<|mv O O O ?_
    refine again_q (k + 1) ⟨O, O, O, lkI O (by first | omega | rfl), trivial⟩ ⟨by omega, (bk_mid hS.tl (by omega))⟩ (by omega)
   ·try simp only [SB] at hc2
    refine wc_skip<|wt<|wc_draw mo 9 (fun w =>St w0 [] [(b5, .cells (BV (seg8 16 (expand key) ((k) * 16))) 22)] w)<|have hS := hS.drew; jx (hS.sl 1 1) fun jj =>dx 0 O (by kernel_rfl) (fun w hS =>mv O O O rr) jj<|dx 1 O (by kernel_rfl) (fun w hS =>mv O O O rr) jj<|dx 2 O (by kernel_rfl) (fun w hS =>subi (by omega) (by omega) O O O O rr) jj<|dx 3 O (by kernel_rfl) (fun w hS =>la 0 ag22 hS O O O O (BV_size _) rr) jj<|dx 5 O (by kernel_rfl) (fun w hS =>nilp O O O rr) jj<|dx 6 O (by kernel_rfl) (fun w hS =>fan 45 45 un147 O sz145 (by decide) O O O O (by omega) rr) jj ?_
    refine dl 4 O (by kernel_rfl)<|cv cf75 hS O O O O O (sp_fast_words ((seg8 16 (expand key) ((k) * 16))) _) fun w hS =>lx (hS.sl 1 1) fun jj =>dx 7 O (by kernel_rfl) (fun w hS =>ian (10 - k) (45 + (10 - k) * 4) un145 sz144 O O O O (by omega) (by omega) (by omega) rr) jj ?_
    refine dl 8 O (by kernel_rfl)<|spp (cs' := #[.bool (true)] ++ (WV (put32 (fwK key k) (k * 4) (wds (seg8 16 (expand key) ((k) * 16)))) ++ (WV (put32 (bkK key k) ((10 - k) * 4) (wds (seg8 16 (expand key) ((k) * 16)))) ++ (BV key ++ (WV fwdT ++ WV bckT))))) 1 ag144 hS O O O (WV_one _) O (le_sz (a := 617) (cat_size (a := 1) (b := 616) O (cat_size (a := 44) (b := 572) (WV_size _) (cat_size (a := 44) (b := 528) (WV_size _) (cat_size (a := 16) (b := 512) (BV_size _) (cat_size (a := 256) (b := 256) (WV_size _) (WV_size _)))))) (by omega)) (WV_size _) (cat_pr (a := 1) (o' := 44 + (10 - k) * 4) O (by omega) (ple2 (WV_size _) (cat_size (a := 44) (b := 572) (WV_size _) (cat_size (a := 44) (b := 528) (WV_size _) (cat_size (a := 16) (b := 512) (BV_size _) (cat_size (a := 256) (b := 256) (WV_size _) (WV_size _))))) (by omega)) (cat_pr (a := 44) (o' := (10 - k) * 4) (WV_size _) (by omega) (ple2 (WV_size _) (cat_size (a := 44) (b := 528) (WV_size _) (cat_size (a := 16) (b := 512) (BV_size _) (cat_size (a := 256) (b := 256) (WV_size _) (WV_size _)))) (by omega)) (cat_pl (a := 44) (WV_size _) (ple (WV_size _) (by omega)) (WV_put _ _ _ (by omega))))) fun w hS =>lx (hS.sl 1 1) fun jj =>de (by kernel_rfl)<|q_block_norm<|wt<|wc_region<|addi (by omega) (by omega) O O O O<|mv O O O ?_
    refine again_q (k + 1) ⟨O, O, O, lkI O (by first | omega | rfl), trivial⟩ ⟨by omega, (bk_out hS.tl (by omega))⟩ (by omega)
  ·try simp only [SB] at hb1
   refine no O O<|no O O<|pk_f O O O O<|wt<|wc_if_f O<|wc_skip<|wt<|wc_draw mo 9 (fun w =>St w0 [] [(b5, .cells (BV (seg8 16 (expand key) ((k) * 16))) 22)] w)<|have hS := hS.drew; jx (hS.sl 1 1) fun jj =>dx 0 O (by kernel_rfl) (fun w hS =>mv O O O rr) jj<|dx 1 O (by kernel_rfl) (fun w hS =>mv O O O rr) jj<|dx 2 O (by kernel_rfl) (fun w hS =>subi (by omega) (by omega) O O O O rr) jj ?_
   refine dx 3 O (by kernel_rfl) (fun w hS =>la 0 ag22 hS O O O O (BV_size _) rr) jj<|dx 5 O (by kernel_rfl) (fun w hS =>nilp O O O rr) jj<|dx 6 O (by kernel_rfl) (fun w hS =>fan 45 45 un147 O sz145 (by decide) O O O O (by omega) rr) jj ?_
   refine dl 4 O (by kernel_rfl)<|cv cf75 hS O O O O O (sp_fast_words ((seg8 16 (expand key) ((k) * 16))) _) fun w hS =>lx (hS.sl 1 1) fun jj =>dx 7 O (by kernel_rfl) (fun w hS =>ian (10 - k) (45 + (10 - k) * 4) un145 sz144 O O O O (by omega) (by omega) (by omega) rr) jj ?_
   refine dl 8 O (by kernel_rfl)<|spp (cs' := #[.bool (true)] ++ (WV (put32 (fwK key k) (k * 4) (wds (seg8 16 (expand key) ((k) * 16)))) ++ (WV (put32 (bkK key k) ((10 - k) * 4) (wds (seg8 16 (expand key) ((k) * 16)))) ++ (BV key ++ (WV fwdT ++ WV bckT))))) 1 ag144 hS O O O (WV_one _) O (le_sz (a := 617) (cat_size (a := 1) (b := 616) O (cat_size (a := 44) (b := 572) (WV_size _) (cat_size (a := 44) (b := 528) (WV_size _) (cat_size (a := 16) (b := 512) (BV_size _) (cat_size (a := 256) (b := 256) (WV_size _) (WV_size _)))))) (by omega)) (WV_size _) (cat_pr (a := 1) (o' := 44 + (10 - k) * 4) O (by omega) (ple2 (WV_size _) (cat_size (a := 44) (b := 572) (WV_size _) (cat_size (a := 44) (b := 528) (WV_size _) (cat_size (a := 16) (b := 512) (BV_size _) (cat_size (a := 256) (b := 256) (WV_size _) (WV_size _))))) (by omega)) (cat_pr (a := 44) (o' := (10 - k) * 4) (WV_size _) (by omega) (ple2 (WV_size _) (cat_size (a := 44) (b := 528) (WV_size _) (cat_size (a := 16) (b := 512) (BV_size _) (cat_size (a := 256) (b := 256) (WV_size _) (WV_size _)))) (by omega)) (cat_pl (a := 44) (WV_size _) (ple (WV_size _) (by omega)) (WV_put _ _ _ (by omega))))) fun w hS =>lx (hS.sl 1 1) fun jj =>de (by kernel_rfl)<|q_block_norm<|wt<|wc_region<|addi (by omega) (by omega) O O O O<|mv O O O ?_
   refine again_q (k + 1) ⟨O, O, O, lkI O (by first | omega | rfl), trivial⟩ ⟨by omega, (bk_out hS.tl (by omega))⟩ (by omega)
 ·try simp only [SB] at hc1
  refine wc_exit<|q_then_exit<|q_then_exit<|q_block_hit<|wt<|rg<|mv O O O<|asg O O O<|wt<|wc_ret<|fin1 (v := Ptr b9 0) O O ?_
  have hk11 : k = 11 := by omega
  subst hk11
  exact ⟨_, _, rfl, ⟨b9, rfl, rfl⟩, hS.sublist (.cons_cons _ (List.nil_sublist _))⟩
theorem sp_fast_rotate (a : UInt32) (r : Nat) (r_ : Int) (w0 : World) (hr_ : r_ = (r : Int)) (hr : r < 4) : Calls Tryz.prog 130 #[U32 a, I r_] w0 (Ret w0 (U32 (rotr a r))) := by
 subst hr_
 refine enter (args := [U32 a, I (r : Int)]) Tryz.func130 O O<|startw fun w hS =>rg<|asg O O O<|wt<|rd mo 11 (fun w =>St w0 [] [] w)<|have hS := hS.drew; jx hS fun jj =>dx 0 O (by kernel_rfl) (fun w hS =>mv O O O rr) jj<|dx 1 O (by kernel_rfl) (fun w hS =>mv O O O rr) jj<|dx 2 O (by kernel_rfl) (fun w hS =>muli (by omega) (by omega) O O O O rr) jj<|dx 3 O (by kernel_rfl) (fun w hS =>shrn32 (8 * r) (by omega) O O O O rr) jj<|dx 4 O (by kernel_rfl) (fun w hS =>mv O O O rr) jj ?_
 refine dx 5 O (by kernel_rfl) (fun w hS =>mv O O O rr) jj<|dx 6 O (by kernel_rfl) (fun w hS =>muli (by omega) (by omega) O O O O rr) jj<|dx 7 O (by kernel_rfl) (fun w hS =>subi (by omega) (by omega) O O O O rr) jj<|dx 8 O (by kernel_rfl) (fun w hS =>andi (D := 32) 5 (by decide) (by decide) (by decide) O O O O rr) jj<|dx 9 O (by kernel_rfl) (fun w hS =>shln32 ((32 - (8 * r)) % 32) (by omega) O O O O rr) jj<|dx 10 O (by kernel_rfl) (fun w hS =>or32 O O O O rr) jj ?_
 refine dl 11 O (by kernel_rfl)<|asg O O O<|ly O<|de (by kernel_rfl)<|wt<|wc_ret<|fin1 (v := U32 ((shr32 a (8 * r)) ||| (shl32 a ((32 - (8 * r)) % 32)))) O O ?_
 exact ⟨rfl, hS.drop⟩
theorem sp_fast_run_1 (s : V32 4) (c r sb E step : Nat) (c_ : Int) (r_ : Int) (w0 : World) (hc_ : c_ = (c : Int)) (hr_ : r_ = (r : Int)) (hc : c < 4) (hr : r < 4) (hs : step ≤ 3) (hb : w0.heap[sb]? = some (.cells #[I step] E)) : Calls Tryz.prog 129 #[.agg (WV s), I c_, I r_, Ptr sb 0] w0 (Ret w0 (U8 (pick s step c r))) := by
 subst hc_
 subst hr_
 refine enter (args := [.agg (WV s), I (c : Int), I (r : Int), Ptr sb 0]) Tryz.func129 O O<|startw fun w hS =>?_
 have hm := mulb4 hr hs
 refine rg<|bxa hS O O O fun b4 w hb4 hS =>asg O O O<|wt<|rg<|mv O O O<|mv O O O<|lod hb List.not_mem_nil sc3 hS O O O O<|muli (by omega) (by omega) O O O O<|addi (by omega) (by omega) O O O O<|andi (D := 4) 2 (by decide) (by decide) (by decide) O O O O<|ian ((c + (r * step)) % 4) (((c + (r * step)) % 4)) un144 sz72 O O O O (by omega) (by omega) (by omega) ?_
 refine lo 0 sc72 hS O O O O (WV_get _ ((c + (r * step)) % 4) (by omega))<|mv O O O<|muli (by omega) (by omega) O O O O<|subi (by omega) (by omega) O O O O<|shrn32 (24 - (8 * r)) (by omega) O O O O<|cvu8 un5 ⟨_, un72⟩ O O O<|asg O O O<|wt<|wc_ret<|fin1 (v := U8 (toU8 (((shr32 (gw s ((c + (r * step)) % 4)) (24 - (8 * r))).toNat : Int)))) O O ?_
 exact ⟨rfl, hS.drop⟩
theorem sp_fast_run (b : V8 16) (kb ko tb to step fid KE TE : Nat) (kcs tcs : Array Value) (kv : V32 44) (tv : V32 256) (g : UInt8 → UInt8) (step_ : Int) (w0 : World) (hstep_ : step_ = (step : Int)) (hs3 : step ≤ 3) (hkb : w0.heap[kb]? = some (.cells kcs KE)) (htb : w0.heap[tb]? = some (.cells tcs TE)) (hk0 : ∀ o i : Nat, o = ko + i → i < 44 → kcs[o]? = some (U32 (gw kv i))) (ht0 : ∀ o i : Nat, o = to + i → i < 256 → tcs[o]? = some (U32 (gw tv i))) (hcf : Callable Tryz.prog fid) (hf : ∀ (x : UInt8) (w : World), St w0 [] [] w → Calls Tryz.prog fid #[U8 x] w (Ret w (U8 (g x)))) : Calls Tryz.prog 106 #[.agg (BV b), Ptr kb ko, Ptr tb to, I step_, .func (.func fid) #[] #[]] w0 (Ret w0 (.agg (BV (runf kv tv step g b)))) := by
 subst hstep_
 refine enter (args := [.agg (BV b), Ptr kb ko, Ptr tb to, I (step : Int), .func (.func fid) #[] #[]]) Tryz.func106 O O<|startw fun w hS =>rg<|bxa hS O O O fun b5 w hb5 hS =>bx1 hS O O O O fun b8 w hb8 hS =>ala zr22 hS O O fun b10 w hb10 hS =>wt<|rg<|la 2 ag22 hS O O O O (BV_size _)<|cv cf75 hS O O O O O (sp_fast_words b _) fun w hS =>ala zr144 hS O O fun b11 w hb11 hS =>sa 0 ag144 hS O O O (WV_one _) O (WV_size _) (WV_size _) fun w hS =>?_
 refine wt<|wc_seq<|rg<|mv O O O<|wt<|wc_block ?_
 refine wc_loop (σ := Nat) (fun k =>[(1, Ptr kb ko), (2, Ptr tb to), (4, .func (.func fid) #[] #[]), (8, Ptr b8 0), (10, Ptr b10 0), (11, Ptr b11 0), (23, I ((k : Int)))])
  (fun k w => (k ≤ 4) ∧ St w0 [] [(b11, .cells (WV (fill32 4 (fun i => gw (wds b) i ^^^ gw kv i) (wds b) k)) 144), (b10, .cells (BV (Vector.replicate 16 0)) 22), (b8, .cells (#[I ((step : Int))]) 3), (b5, .cells (BV b) 22)] w) (fun k => 4 - k) 0 ⟨rfl, rfl, rfl, rfl, rfl, rfl, rfl, trivial⟩ ⟨by omega, (by simp only [Nat.zero_mul, Nat.add_zero, fill8_0, fill32_0]; exact hS)⟩ ?_
 rintro k w ⟨hk, hS⟩
 refine rg<|lss O O O O<|wt<|wc_seq ?_
 refine wc_if O (fun hc1 =>?_) (fun hc1 =>?_)
 ·try simp only [SB] at hc1
  refine wc_skip<|wt<|wc_seq<|wc_block<|rg<|mv O O O<|asg O O O<|wt<|wc_draw mo 10 (fun w =>St w0 [] [(b11, .cells (WV (fill32 4 (fun i =>gw (wds b) i ^^^ gw kv i) (wds b) k)) 144), (b10, .cells (BV (Vector.replicate 16 0)) 22), (b8, .cells (#[I ((step : Int))]) 3), (b5, .cells (BV b) 22)] w)<|have hS := hS.drew; jx hS fun jj =>dx 0 O (by kernel_rfl) (fun w hS =>mv O O O rr) jj<|dx 1 O (by kernel_rfl) (fun w hS =>ian k k un144 sz72 O O O O (by omega) (by omega) (by omega) rr) jj ?_
  refine dx 2 O (by kernel_rfl) (fun w hS =>lo 0 sc72 hS O O O O (WV_get _ k (by omega)) rr) jj<|dx 3 O (by kernel_rfl) (fun w hS =>mv O O O rr) jj<|dx 4 O (by kernel_rfl) (fun w hS =>mv O O O rr) jj<|dx 5 O (by kernel_rfl) (fun w hS =>nilp O O O rr) jj<|dx 6 O (by kernel_rfl) (fun w hS =>ian 0 ko un145 sz144 O O O O (by omega) (by omega) (by omega) rr) jj<|dx 7 O (by kernel_rfl) (fun w hS =>ian k (ko + k) un144 sz72 O O O O (by omega) (by omega) (by omega) rr) jj<|dx 8 O (by kernel_rfl) (fun w hS =>lod hkb List.not_mem_nil sc72 hS O O O (hk0 _ k (by omega) (by omega)) rr) jj<|dx 9 O (by kernel_rfl) (fun w hS =>xor32 O O O O rr) jj ?_
  refine dl 10 O (by kernel_rfl)<|ian k k un144 sz72 O O O O (by omega) (by omega) (by omega)<|ly O ?_
  refine dl 11 O (by kernel_rfl)<|st (cs' := WV (fill32 4 (fun i =>gw (wds b) i ^^^ gw kv i) (wds b) (k + 1))) 0 sz72 hS O O O O O O (by rw [WV_size]; omega) (by rw [WV_set, gw_fill_ge _ _ (Nat.le_refl _)]; exact congrArg WV (fill32_succ (fun i => gw (wds b) i ^^^ gw kv i) (wds b) k)) fun w hS =>ly O<|de (by kernel_rfl)<|q_block_norm<|wt<|wc_region<|addi (by omega) (by omega) O O O O<|mv O O O ?_
  refine again_q (k + 1) ⟨O, O, O, O, O, O, lkI O (by first | omega | rfl), trivial⟩ ⟨by omega, hS⟩ (by omega)
 ·try simp only [SB] at hc1
  refine wc_exit<|q_then_exit<|q_then_exit<|q_block_hit<|wt<|rg<|mkf O O O<|asg O O O<|wt<|wc_seq<|rg<|asg O O O ?_
  refine wt<|wc_block ?_
  refine wc_loop (σ := Nat) (fun n =>[(1, Ptr kb ko), (2, Ptr tb to), (4, .func (.func fid) #[] #[]), (10, Ptr b10 0), (11, Ptr b11 0), (13, .func (.func 129) #[] #[Ptr b8 0]), (14, I (((n + 1 : Nat) : Int)))])
   (fun n w => (n ≤ 9) ∧ St w0 [] [(b11, .cells (WV ((stL kv tv step b n))) 144), (b10, .cells (BV (Vector.replicate 16 0)) 22), (b8, .cells (#[I ((step : Int))]) 3), (b5, .cells (BV b) 22)] w) (fun n => 9 - n) 0 ⟨rfl, rfl, rfl, rfl, rfl, rfl, rfl, trivial⟩ ⟨by omega, (run_ini hS (by omega))⟩ ?_
  rintro n w ⟨hn, hS⟩
  refine wc_seq<|rg<|mv O O O<|lss O O O O<|wt ?_
  refine wc_if O (fun hc2 =>?_) (fun hc2 =>?_)
  ·try simp only [SB] at hc2
   refine wc_skip<|wt<|wc_seq<|wc_block<|rg<|ala zr144 hS O O fun b15 w hb15 hS =>wt<|wc_seq<|rg<|mv O O O<|wt<|wc_block ?_
   refine wc_loop (σ := Nat) (fun c =>[(1, Ptr kb ko), (2, Ptr tb to), (4, .func (.func fid) #[] #[]), (10, Ptr b10 0), (11, Ptr b11 0), (13, .func (.func 129) #[] #[Ptr b8 0]), (14, I (((n + 1 : Nat) : Int))), (15, Ptr b15 0), (43, I ((c : Int)))])
    (fun c w => (c ≤ 4) ∧ St w0 [] [(b15, .cells (WV (fill32 4 (fun c => rowL kv tv step (stL kv tv step b n) (n + 1) c 4) (Vector.replicate 4 0) c)) 144), (b11, .cells (WV ((stL kv tv step b n))) 144), (b10, .cells (BV (Vector.replicate 16 0)) 22), (b8, .cells (#[I ((step : Int))]) 3), (b5, .cells (BV b) 22)] w) (fun c => 4 - c) 0 ⟨rfl, rfl, rfl, rfl, rfl, rfl, rfl, rfl, rfl, trivial⟩ ⟨by omega, (by simp only [Nat.zero_mul, Nat.add_zero, fill8_0, fill32_0]; exact hS)⟩ ?_
   rintro c w ⟨hc, hS⟩
   refine rg<|lss O O O O<|wt<|wc_seq ?_
   refine wc_if O (fun hc3 =>?_) (fun hc3 =>?_)
   ·try simp only [SB] at hc3
    refine wc_skip<|wt<|wc_seq<|wc_block<|rg<|mv O O O<|asg O O O<|wt<|rg<|mv O O O<|mv O O O<|mv O O O ?_
    refine mv O O O<|nilp O O O<|ian ((n + 1)) (ko + (n + 1) * 4) un145 sz144 O O O O (by omega) (by omega) (by omega)<|ian c (ko + (n + 1) * 4 + c) un144 sz72 O O O O (by omega) (by omega) (by omega)<|lod hkb List.not_mem_nil sc72 hS O O O (hk0 _ ((n + 1) * 4 + c) (by omega) (by omega))<|ian c c un144 sz72 O O O O (by omega) (by omega) (by omega)<|st 0 sz72 hS O O O O O O (by rw [WV_size]; omega) (WV_set _ _ (gw kv ((n + 1) * 4 + c) : UInt32)) fun w hS =>wt<|rg<|mv O O O<|wt<|wc_block ?_
    refine wc_loop (σ := Nat) (fun q =>[(1, Ptr kb ko), (2, Ptr tb to), (4, .func (.func fid) #[] #[]), (10, Ptr b10 0), (11, Ptr b11 0), (13, .func (.func 129) #[] #[Ptr b8 0]), (14, I (((n + 1 : Nat) : Int))), (15, Ptr b15 0), (16, I ((c : Int))), (43, I ((c : Int))), (55, I ((q : Int)))])
     (fun q w => (q ≤ 4) ∧ St w0 [] [(b15, .cells (WV ((fill32 4 (fun c => rowL kv tv step (stL kv tv step b n) (n + 1) c 4) (Vector.replicate 4 0) c).setIfInBounds c (rowL kv tv step (stL kv tv step b n) (n + 1) c q))) 144), (b11, .cells (WV ((stL kv tv step b n))) 144), (b10, .cells (BV (Vector.replicate 16 0)) 22), (b8, .cells (#[I ((step : Int))]) 3), (b5, .cells (BV b) 22)] w) (fun q => 4 - q) 0 ⟨rfl, rfl, rfl, rfl, rfl, rfl, rfl, rfl, rfl, rfl, rfl, trivial⟩ ⟨by omega, hS⟩ ?_
    rintro q w ⟨hq, hS⟩
    refine rg<|lss O O O O<|wt<|wc_seq ?_
    refine wc_if O (fun hc4 =>?_) (fun hc4 =>?_)
    ·try simp only [SB] at hc4
     refine wc_skip<|wt<|wc_seq<|wc_block<|rg<|mv O O O<|asg O O O<|wt<|rd mo 9 (fun w =>St w0 [] [(b15, .cells (WV ((fill32 4 (fun c =>rowL kv tv step (stL kv tv step b n) (n + 1) c 4) (Vector.replicate 4 0) c).setIfInBounds c (rowL kv tv step (stL kv tv step b n) (n + 1) c q))) 144), (b11, .cells (WV ((stL kv tv step b n))) 144), (b10, .cells (BV (Vector.replicate 16 0)) 22), (b8, .cells (#[I ((step : Int))]) 3), (b5, .cells (BV b) 22)] w)<|have hS := hS.drew; jx hS fun jj =>dx 0 O (by kernel_rfl) (fun w hS =>mv O O O rr) jj<|dx 1 O (by kernel_rfl) (fun w hS =>mv O O O rr) jj ?_
     refine dx 2 O (by kernel_rfl) (fun w hS =>la 1 ag144 hS O O O O (WV_size _) rr) jj<|dx 3 O (by kernel_rfl) (fun w hS =>mv O O O rr) jj<|dx 4 O (by kernel_rfl) (fun w hS =>mv O O O rr) jj<|dx 6 O (by kernel_rfl) (fun w hS =>nilp O O O rr) jj ?_
     refine dl 5 O (by kernel_rfl)<|cv cf129 hS O O O O O (sp_fast_run_1 ((stL kv tv step b n)) c q b8 _ step _ _ _ (by omega) (by omega) (by omega) (by omega) (by omega) (hS.get 3 O)) fun w hS =>lx hS fun jj =>dx 7 O (by kernel_rfl) (fun w hS =>ian ((pick (stL kv tv step b n) step c q).toNat) (to + ((pick (stL kv tv step b n) step c q).toNat)) un140 sz72 O O O O (by omega) (by have := (pick (stL kv tv step b n) step c q).toNat_lt; omega) (by omega) rr) jj<|dx 8 O (by kernel_rfl) (fun w hS =>lod htb List.not_mem_nil sc72 hS O O O (ht0 _ ((pick (stL kv tv step b n) step c q).toNat) (by have := (pick (stL kv tv step b n) step c q).toNat_lt; omega) (by have := (pick (stL kv tv step b n) step c q).toNat_lt; omega)) rr) jj ?_
     refine dl 9 O (by kernel_rfl)<|asg O O O<|ly O<|de (by kernel_rfl)<|wt<|wc_seq<|rg<|mv O O O<|gtr O O O O<|wt ?_
     refine wc_if O (fun hc5 =>?_) (fun hc5 =>?_)
     ·try simp only [SB] at hc5
      refine wc_region<|mv O O O<|mv O O O<|cv cf130 hS O O O O O (sp_fast_rotate ((gw tv ((pick (stL kv tv step b n) step c q).toNat))) q _ _ (by omega) (by omega)) fun w hS =>asg O O O<|wt<|wc_region<|mv O O O<|ian c c un144 sz72 O O O O (by omega) (by omega) (by omega)<|lo 0 sc72 hS O O O O (WV_get _ c (by omega))<|mv O O O<|xor32 O O O O ?_
      refine ian c c un144 sz72 O O O O (by omega) (by omega) (by omega)<|st (cs' := WV ((fill32 4 (fun c =>rowL kv tv step (stL kv tv step b n) (n + 1) c 4) (Vector.replicate 4 0) c).setIfInBounds c (rowL kv tv step (stL kv tv step b n) (n + 1) c (q + 1)))) 0 sz72 hS O O O O O O (by rw [WV_size]; omega) (by rw [WV_set]; exact congrArg WV (run_qp _ (by omega) (by omega))) fun w hS =>q_block_norm<|wt<|wc_region<|addi (by omega) (by omega) O O O O<|mv O O O ?_
      refine again_q (q + 1) ⟨O, O, O, O, O, O, O, O, O, O, lkI O (by first | omega | rfl), trivial⟩ ⟨by omega, hS⟩ (by omega)
     ·try simp only [SB] at hc5
      refine wc_skip<|wt<|wc_region<|mv O O O<|ian c c un144 sz72 O O O O (by omega) (by omega) (by omega)<|lo 0 sc72 hS O O O O (WV_get _ c (by omega))<|mv O O O<|xor32 O O O O<|ian c c un144 sz72 O O O O (by omega) (by omega) (by omega)<|st (cs' := WV ((fill32 4 (fun c =>rowL kv tv step (stL kv tv step b n) (n + 1) c 4) (Vector.replicate 4 0) c).setIfInBounds c (rowL kv tv step (stL kv tv step b n) (n + 1) c (q + 1)))) 0 sz72 hS O O O O O O (by rw [WV_size]; omega) (by rw [WV_set]; exact congrArg WV (run_qz _ (by omega) (by omega))) fun w hS =>q_block_norm<|wt ?_
      refine wc_region<|addi (by omega) (by omega) O O O O<|mv O O O ?_
      refine again_q (q + 1) ⟨O, O, O, O, O, O, O, O, O, O, lkI O (by first | omega | rfl), trivial⟩ ⟨by omega, hS⟩ (by omega)
    ·try simp only [SB] at hc4
     refine wc_exit<|q_then_exit<|q_then_exit<|q_block_hit<|q_block_norm<|wt<|wc_region<|addi (by omega) (by omega) O O O O<|mv O O O ?_
     refine again_q (c + 1) ⟨O, O, O, O, O, O, O, O, lkI O (by first | omega | rfl), trivial⟩ ⟨by omega, (run_cel hS (by omega))⟩ (by omega)
   ·try simp only [SB] at hc3
    refine wc_exit<|q_then_exit<|q_then_exit<|q_block_hit<|wt<|wc_region<|la 0 ag144 hS O O O O (WV_size _)<|sa 1 ag144 hS O O O (WV_one _) O (WV_size _) (WV_size _) fun w hS =>q_block_norm<|wt<|wc_region<|mv O O O ?_
    refine addi (by omega) (by omega) O O O O<|asg O O O ?_
    refine again_q (n + 1) ⟨O, O, O, O, O, O, lkI O (by first | omega | rfl), trivial⟩ ⟨by omega, (run_rnd hS.tl (by omega))⟩ (by omega)
  ·try simp only [SB] at hc2
   have hn9 : n = 9 := by omega
   obtain ⟨s9, hs9⟩ : ∃ s9, s9 = stL kv tv step b n := ⟨_, rfl⟩
   rw [← hs9] at hS
   refine wc_exit<|q_then_exit<|q_then_exit<|q_block_hit<|wt<|rg<|ala zr22 hS O O fun b19 w hb19 hS =>wt<|wc_seq<|rg<|mv O O O<|wt ?_
   refine wc_block ?_
   refine wc_loop (σ := Nat) (fun k =>[(1, Ptr kb ko), (4, .func (.func fid) #[] #[]), (10, Ptr b10 0), (11, Ptr b11 0), (13, .func (.func 129) #[] #[Ptr b8 0]), (19, Ptr b19 0), (81, I ((k : Int)))])
    (fun k w => (k ≤ 16) ∧ St w0 [] [(b19, .cells (BV (fill8 16 (lastf kv step g s9) (Vector.replicate 16 0) k)) 22), (b11, .cells (WV s9) 144), (b10, .cells (BV (Vector.replicate 16 0)) 22), (b8, .cells (#[I ((step : Int))]) 3), (b5, .cells (BV b) 22)] w) (fun k => 16 - k) 0 ⟨rfl, rfl, rfl, rfl, rfl, rfl, rfl, trivial⟩ ⟨by omega, (by simp only [Nat.zero_mul, Nat.add_zero, fill8_0, fill32_0]; exact hS)⟩ ?_
   rintro k w ⟨hk, hS⟩
   refine rg<|lss O O O O<|wt<|wc_seq ?_
   refine wc_if O (fun hc6 =>?_) (fun hc6 =>?_)
   ·try simp only [SB] at hc6
    refine wc_skip<|wt<|wc_seq<|wc_block<|rg<|mv O O O<|asg O O O<|wt<|wc_draw mo 24 (fun w =>St w0 [] [(b19, .cells (BV (fill8 16 (lastf kv step g s9) (Vector.replicate 16 0) k)) 22), (b11, .cells (WV s9) 144), (b10, .cells (BV (Vector.replicate 16 0)) 22), (b8, .cells (#[I ((step : Int))]) 3), (b5, .cells (BV b) 22)] w)<|have hS := hS.drew; jx hS fun jj =>dx 0 O (by kernel_rfl) (fun w hS =>mv O O O rr) jj<|dx 1 O (by kernel_rfl) (fun w hS =>mv O O O rr) jj ?_
    refine dx 2 O (by kernel_rfl) (fun w hS =>mv O O O rr) jj<|dx 3 O (by kernel_rfl) (fun w hS =>la 1 ag144 hS O O O O (WV_size _) rr) jj<|dx 4 O (by kernel_rfl) (fun w hS =>mv O O O rr) jj<|dx 5 O (by kernel_rfl) (fun w hS =>shri (D := 4) (by decide) (by decide) (by decide) O O O O rr) jj<|dx 6 O (by kernel_rfl) (fun w hS =>mv O O O rr) jj<|dx 7 O (by kernel_rfl) (fun w hS =>andi (D := 4) 2 (by decide) (by decide) (by decide) O O O O rr) jj<|dx 10 O (by kernel_rfl) (fun w hS =>mv O O O rr) jj<|dx 11 O (by kernel_rfl) (fun w hS =>mv O O O rr) jj<|dx 12 O (by kernel_rfl) (fun w hS =>shri (D := 4) (by decide) (by decide) (by decide) O O O O rr) jj<|dx 13 O (by kernel_rfl) (fun w hS =>nilp O O O rr) jj<|dx 14 O (by kernel_rfl) (fun w hS =>ian 10 (ko + 40) un145 sz144 O O O O (by omega) (by omega) (by omega) rr) jj<|dx 15 O (by kernel_rfl) (fun w hS =>ian (k / 4) (ko + 40 + (k / 4)) un144 sz72 O O O O (by omega) (by omega) (by omega) rr) jj ?_
    refine dx 16 O (by kernel_rfl) (fun w hS =>lod hkb List.not_mem_nil sc72 hS O O O (hk0 _ (40 + (k / 4)) (by omega) (by omega)) rr) jj<|dx 17 O (by kernel_rfl) (fun w hS =>mv O O O rr) jj<|dx 18 O (by kernel_rfl) (fun w hS =>andi (D := 4) 2 (by decide) (by decide) (by decide) O O O O rr) jj<|dx 19 O (by kernel_rfl) (fun w hS =>muli (by omega) (by omega) O O O O rr) jj<|dx 20 O (by kernel_rfl) (fun w hS =>subi (by omega) (by omega) O O O O rr) jj<|dx 21 O (by kernel_rfl) (fun w hS =>shrn32 (24 - (8 * (k % 4))) (by omega) O O O O rr) jj<|dx 22 O (by kernel_rfl) (fun w hS =>cvu8 un5 ⟨_, un72⟩ O O O rr) jj ?_
    refine dl 8 O (by kernel_rfl)<|cv cf129 hS O O O O O (sp_fast_run_1 s9 ((k / 4)) ((k % 4)) b8 _ step _ _ _ (by omega) (by omega) (by omega) (by omega) (by omega) (hS.get 3 O)) fun w hS =>lx hS fun jj =>?_
    refine dl 9 O (by kernel_rfl)<|cv hcf hS O O O O O (hf _ _ hS.drop) fun w hS =>lx hS fun jj =>dx 23 O (by kernel_rfl) (fun w hS =>xor8 O O O O rr) jj ?_
    refine dl 24 O (by kernel_rfl)<|ian k k un22 sz5 O O O O (by omega) (by omega) (by omega)<|ly O ?_
    refine dl 25 O (by kernel_rfl)<|st (cs' := BV (fill8 16 (lastf kv step g s9) (Vector.replicate 16 0) (k + 1))) 0 sz5 hS O O O O O O (by rw [BV_size]; omega) (by rw [BV_set]; exact congrArg BV (fill8_succ (lastf kv step g s9) (Vector.replicate 16 0) k)) fun w hS =>ly O<|de (by kernel_rfl)<|q_block_norm<|wt<|wc_region<|addi (by omega) (by omega) O O O O<|mv O O O ?_
    refine again_q (k + 1) ⟨O, O, O, O, O, O, lkI O (by first | omega | rfl), trivial⟩ ⟨by omega, hS⟩ (by omega)
   ·try simp only [SB] at hc6
    refine wc_exit<|q_then_exit<|q_then_exit<|q_block_hit<|wt<|rg<|la 0 ag22 hS O O O O (BV_size _)<|sa 2 ag22 hS O O O (BV_one _) O (BV_size _) (BV_size _) fun w hS =>wt<|wc_ret<|fin1 (v := .agg (BV (fill8 16 (lastf kv step g s9) (Vector.replicate 16 0) k))) O ⟨_, O, lv_a ag22 (hS.get 2 O) (BV_size _)⟩ ?_
    refine ⟨?_, hS.drop⟩
    have hk4 : k = 16 := by omega
    subst hk4; rw [fill8_n, hs9, hn9]; rfl
theorem sp_fast_Cipher_right (c E : Nat) (key : V8 16) (w0 : World) (hC : w0.heap[c]? = some (.cells (cipherC key) E)) : Calls Tryz.prog 105 #[Ptr c 0] w0 (Ret w0 (Ptr c 0)) := by
 refine enter (args := [Ptr c 0]) Tryz.func105 O O<|startw fun w hS =>rg<|asg O O O<|wt<|wc_seq<|rg<|mv O O O<|eqpn un79 O O O O<|mv O O O<|mv O O O<|nilp O O O ?_
 refine fan 0 0 un147 O sz4 (by decide) O O O O (by omega)<|lod hC List.not_mem_nil sc4 hS O O O (cat_l (a := 1) O (by omega) O)<|notb O O O<|pk_f O O O O<|wt<|wc_if_f O<|wc_skip<|wt<|rg<|mv O O O<|asg O O O<|wt ?_
 refine wc_ret<|fin1 (v := Ptr c 0) O O ?_
 exact ⟨rfl, hS.drop⟩
theorem sp_fast_Cipher_Encrypt (c E : Nat) (key : V8 16) (b : V8 16) (w0 : World) (hC : w0.heap[c]? = some (.cells (cipherC key) E)) : Calls Tryz.prog 71 #[Ptr c 0, .agg (BV b)] w0 (Ret w0 (.agg (BV (enc key b)))) := by
 refine enter (args := [Ptr c 0, .agg (BV b)]) Tryz.func71 O O<|startw fun w hS =>rg<|bxa hS O O O fun b3 w hb3 hS =>ala zr22 hS O O fun b4 w hb4 hS =>wt<|rg<|mv O O O<|cv cf105 hS O O O O O (sp_fast_Cipher_right c _ _ _ (hS.old hC List.not_mem_nil)) fun w hS =>asg O O O<|wt<|rd mo 9 (fun w =>St w0 [] [(b4, .cells (BV (Vector.replicate 16 0)) 22), (b3, .cells (BV b) 22)] w) ?_
 have hS := hS.drew
 refine jx hS fun jj =>dx 0 O (by kernel_rfl) (fun w hS =>la 1 ag22 hS O O O O (BV_size _) rr) jj<|dx 1 O (by kernel_rfl) (fun w hS =>mv O O O rr) jj<|dx 2 O (by kernel_rfl) (fun w hS =>nilp O O O rr) jj<|dx 3 O (by kernel_rfl) (fun w hS =>fan 1 1 un147 O sz145 (by decide) O O O O (by omega) rr) jj<|dx 4 O (by kernel_rfl) (fun w hS =>mv O O O rr) jj<|dx 5 O (by kernel_rfl) (fun w hS =>nilp O O O rr) jj<|dx 6 O (by kernel_rfl) (fun w hS =>fan 105 105 un147 O sz142 (by decide) O O O O (by omega) rr) jj<|dx 7 O (by kernel_rfl) (fun w hS =>fan 0 105 un142 O sz140 (by decide) O O O O (by omega) rr) jj ?_
 refine dl 8 O (by kernel_rfl)<|cv cf106 hS O O O O O (sp_fast_run b c 1 c 105 1 107 _ _ (cipherC key) (cipherC key) (fwK key 11) fwdT sbox _ _ O (by omega) (hS.old hC List.not_mem_nil) (hS.old hC List.not_mem_nil) (ci_fw key) (ci_t key) cf107 (fun x w _ =>sp_sbox_S x w)) fun w hS =>lx hS fun jj =>?_
 refine dl 9 O (by kernel_rfl)<|sa 0 ag22 hS O O O (BV_one _) O (BV_size _) (BV_size _) fun w hS =>ly O<|de (by kernel_rfl)<|wt<|wc_ret<|fin1 (v := .agg (BV (runf (fwK key 11) fwdT 1 sbox b))) O ⟨_, O, lv_a ag22 (hS.get 0 O) (BV_size _)⟩ ?_
 exact ⟨rfl, hS.drop⟩
theorem sp_block_Double (b : V8 16) (w0 : World) : Calls Tryz.prog 72 #[.agg (BV b)] w0 (Ret w0 (.agg (BV (dblB b)))) := by
 refine enter (args := [.agg (BV b)]) Tryz.func72 O O<|startw fun w hS =>rg<|bxa hS O O O fun b1 w hb1 hS =>ala zr22 hS O O fun b2 w hb2 hS =>wt<|rg<|ala zr22 hS O O fun b3 w hb3 hS =>wt<|wc_seq<|rg<|mv O O O ?_
 refine wt<|wc_block ?_
 refine wc_loop (σ := Nat) (fun k =>[(1, Ptr b1 0), (2, Ptr b2 0), (3, Ptr b3 0), (5, I ((k : Int)))])
  (fun k w => (k ≤ 16) ∧ St w0 [] [(b3, .cells (BV (fill8 16 (dblf b) (Vector.replicate 16 0) k)) 22), (b2, .cells (BV (Vector.replicate 16 0)) 22), (b1, .cells (BV b) 22)] w) (fun k => 16 - k) 0 ⟨rfl, rfl, rfl, rfl, trivial⟩ ⟨by omega, (by simp only [Nat.zero_mul, Nat.add_zero, fill8_0, fill32_0]; exact hS)⟩ ?_
 rintro k w ⟨hk, hS⟩
 refine rg<|lss O O O O<|wt<|wc_seq ?_
 refine wc_if O (fun hc1 =>?_) (fun hc1 =>?_)
 ·try simp only [SB] at hc1
  refine wc_skip<|wt<|wc_seq<|wc_block<|rg<|mv O O O<|asg O O O<|wt<|rg<|mv O O O<|mv O O O<|ian k k un22 sz5 O O O O (by omega) (by omega) (by omega) ?_
  refine lo 2 sc5 hS O O O O (BV_get _ k (by omega))<|shln8 1 (by omega) O O O O<|ian k k un22 sz5 O O O O (by omega) (by omega) (by omega)<|st 0 sz5 hS O O O O O O (by rw [BV_size]; omega) (BV_set _ _ (shl8 (gv b k) 1 : UInt8)) fun w hS =>wt<|rg<|mv O O O<|addi (by omega) (by omega) O O O O<|lss O O O O<|wt ?_
  refine wc_if O (fun hc2 =>?_) (fun hc2 =>?_)
  ·try simp only [SB] at hc2
   refine wc_draw mo 9 (fun w =>St w0 [] [(b3, .cells (BV ((fill8 16 (dblf b) (Vector.replicate 16 0) k).setIfInBounds k (shl8 (gv b k) 1))) 22), (b2, .cells (BV (Vector.replicate 16 0)) 22), (b1, .cells (BV b) 22)] w)<|have hS := hS.drew; jx hS fun jj =>dx 0 O (by kernel_rfl) (fun w hS =>mv O O O rr) jj<|dx 1 O (by kernel_rfl) (fun w hS =>ian k k un22 sz5 O O O O (by omega) (by omega) (by omega) rr) jj<|dx 2 O (by kernel_rfl) (fun w hS =>lo 0 sc5 hS O O O O (BV_get _ k (by omega)) rr) jj<|dx 3 O (by kernel_rfl) (fun w hS =>mv O O O rr) jj<|dx 4 O (by kernel_rfl) (fun w hS =>addi (by omega) (by omega) O O O O rr) jj<|dx 5 O (by kernel_rfl) (fun w hS =>ian (k + 1) ((k + 1)) un22 sz5 O O O O (by omega) (by omega) (by omega) rr) jj<|dx 6 O (by kernel_rfl) (fun w hS =>lo 2 sc5 hS O O O O (BV_get _ (k + 1) (by omega)) rr) jj<|dx 7 O (by kernel_rfl) (fun w hS =>shrn8 7 (by omega) O O O O rr) jj<|dx 8 O (by kernel_rfl) (fun w hS =>or8 O O O O rr) jj ?_
   refine dl 9 O (by kernel_rfl)<|ian k k un22 sz5 O O O O (by omega) (by omega) (by omega)<|ly O ?_
   refine dl 10 O (by kernel_rfl)<|st (cs' := BV (fill8 16 (dblf b) (Vector.replicate 16 0) (k + 1))) 0 sz5 hS O O O O O O (by rw [BV_size]; omega) (by rw [BV_set]; exact congrArg BV (dbl_t (by omega))) fun w hS =>ly O<|de (by kernel_rfl)<|q_block_norm<|wt<|wc_region<|addi (by omega) (by omega) O O O O<|mv O O O ?_
   refine again_q (k + 1) ⟨O, O, O, lkI O (by first | omega | rfl), trivial⟩ ⟨by omega, hS⟩ (by omega)
  ·try simp only [SB] at hc2
   have hS := dbl_end hS (by omega)
   refine wc_skip<|q_block_norm<|wt<|wc_region<|addi (by omega) (by omega) O O O O<|mv O O O ?_
   refine again_q (k + 1) ⟨O, O, O, lkI O (by first | omega | rfl), trivial⟩ ⟨by omega, hS⟩ (by omega)
 ·try simp only [SB] at hc1
  have hk4 : k = 16 := by omega
  subst hk4
  rw [fill8_n] at hS
  refine wc_exit<|q_then_exit<|q_then_exit<|q_block_hit<|wt<|rg<|ian 15 15 un22 sz5 O O O O (by omega) (by omega) (by omega)<|lo 0 sc5 hS O O O O (BV_get _ 15 (by omega))<|ian 0 0 un22 sz5 O O O O (by omega) (by omega) (by omega)<|lo 2 sc5 hS O O O O (BV_get _ 0 (by omega))<|cvk (q := IntKind.i8.wrap ((gv b 0).toNat : Int)) un199 ⟨_, un5⟩ O O O O<|shrk (q := Int.fdiv (IntKind.i8.wrap ((gv b 0).toNat : Int)) (2 ^ 7)) (m := 7) (by decide) O O O O O ?_
  refine cvu8 un5 ⟨_, un199⟩ O O O<|and8 (q := (135 : UInt8)) O O O O<|xor8 O O O O<|ian 15 15 un22 sz5 O O O O (by omega) (by omega) (by omega)<|st 0 sz5 hS O O O O O O (by rw [BV_size]; omega) (BV_set _ _ ((gv (Vector.ofFn fun i =>dblf b i.val : V8 16) 15) ^^^ ((toU8 ((Int.fdiv (IntKind.i8.wrap ((gv b 0).toNat : Int)) (2 ^ 7)))) &&& 135) : UInt8)) fun w hS =>wt<|rg<|la 0 ag22 hS O O O O (BV_size _)<|sa 1 ag22 hS O O O (BV_one _) O (BV_size _) (BV_size _) fun w hS =>wt<|wc_ret<|fin1 (v := .agg (BV ((Vector.ofFn fun i =>dblf b i.val : V8 16).setIfInBounds 15 ((gv (Vector.ofFn fun i =>dblf b i.val : V8 16) 15) ^^^ ((toU8 ((Int.fdiv (IntKind.i8.wrap ((gv b 0).toNat : Int)) (2 ^ 7)))) &&& 135))))) O ⟨_, O, lv_a ag22 (hS.get 1 O) (BV_size _)⟩ ?_
  exact ⟨rfl, hS.drop⟩
theorem sp_table_New (c E : Nat) (key : V8 16) (w0 : World) (hC : w0.heap[c]? = some (.cells (cipherC key) E)) : Calls Tryz.prog 26 #[Ptr c 0] w0 (RetS w0 (fun v L => ∃ t, v = Ptr t 0 ∧ L = [(t, .cells (tableC c key) 139)])) := by
 refine enter (args := [Ptr c 0]) Tryz.func26 O O<|startw fun w hS =>rg<|asg O O O<|wt<|rg<|mv O O O<|mv O O O<|bd (cs := BV (Vector.replicate 16 0)) O O O (by kernel_rfl)<|cv cf71 hS O O O O O (sp_fast_Cipher_Encrypt c _ key ((Vector.replicate 16 0)) _ (hS.old hC List.not_mem_nil)) fun w hS =>bd (cs := #[Ptr c 0] ++ (BV (enc key (Vector.replicate 16 0)) ++ (BV (Vector.replicate 16 0) ++ BV (Vector.replicate 1024 0)))) O O O ((bu139 _).trans (fill_1 (off := 0) O O (le_sz (a := 1057) (cat_size (a := 1) (b := 1056) O (cat_size (a := 16) (b := 1040) (BV_size _) (cat_size (a := 16) (b := 1024) (BV_size _) (BV_size _)))) (by omega)) (cat_sl (a := 1) O (by omega) O)<|fill_w (off := 1) (size := 16) O (BV_size _) (le_sz (a := 1057) (cat_size (a := 1) (b := 1056) O (cat_size (a := 16) (b := 1040) (BV_size _) (cat_size (a := 16) (b := 1024) (BV_size _) (BV_size _)))) (by omega)) (cat_pr (a := 1) (o' := 0) O (by omega) (ple2 (BV_size _) (cat_size (a := 16) (b := 1040) (BV_size _) (cat_size (a := 16) (b := 1024) (BV_size _) (BV_size _))) (by omega)) (cat_pl (a := 16) (BV_size _) (ple (BV_size _) (by omega)) (put_all (BV_size _) (BV_size _))))<|O))<|bxa hS O O O fun b11 w hb11 hS =>?_
 refine asg O O O<|wt<|rg<|mv O O O<|mv O O O<|nilp O O O<|fan 1 1 un139 O sz22 (by decide) O O O O (by omega)<|lp (u := .agg (BV (enc key (Vector.replicate 16 0)))) 0 ag22 hS O O O O (le_sz (a := 1057) (cat_size (a := 1) (b := 1056) O (cat_size (a := 16) (b := 1040) (BV_size _) (cat_size (a := 16) (b := 1024) (BV_size _) (BV_size _)))) (by omega)) (cat_xr (a := 1) (o' := 0) O (by omega) (cat_xl (a := 16) (BV_size _) (by omega) (ext_all (BV_size _)))) O<|cv cf72 hS O O O O O (sp_block_Double ((enc key (Vector.replicate 16 0))) _) fun w hS =>nilp O O O<|fan 17 17 un139 O sz22 (by decide) O O O O (by omega)<|spp (cs' := #[Ptr c 0] ++ (BV (enc key (Vector.replicate 16 0)) ++ (BV (dblB (enc key (Vector.replicate 16 0))) ++ BV (Vector.replicate 1024 0)))) 0 ag22 hS O O O (BV_one _) O (le_sz (a := 1057) (cat_size (a := 1) (b := 1056) O (cat_size (a := 16) (b := 1040) (BV_size _) (cat_size (a := 16) (b := 1024) (BV_size _) (BV_size _)))) (by omega)) (BV_size _) (cat_pr (a := 1) (o' := 16) O (by omega) (ple2 (BV_size _) (cat_size (a := 16) (b := 1040) (BV_size _) (cat_size (a := 16) (b := 1024) (BV_size _) (BV_size _))) (by omega)) (cat_pr (a := 16) (o' := 0) (BV_size _) (by omega) (ple2 (BV_size _) (cat_size (a := 16) (b := 1024) (BV_size _) (BV_size _)) (by omega)) (cat_pl (a := 16) (BV_size _) (ple (BV_size _) (by omega)) (put_all (BV_size _) (BV_size _))))) fun w hS =>?_
 refine wt<|rg<|mv O O O<|nilp O O O<|fan 17 17 un139 O sz22 (by decide) O O O O (by omega)<|lp (u := .agg (BV (dblB (enc key (Vector.replicate 16 0))))) 0 ag22 hS O O O O (le_sz (a := 1057) (cat_size (a := 1) (b := 1056) O (cat_size (a := 16) (b := 1040) (BV_size _) (cat_size (a := 16) (b := 1024) (BV_size _) (BV_size _)))) (by omega)) (cat_xr (a := 1) (o' := 16) O (by omega) (cat_xr (a := 16) (o' := 0) (BV_size _) (by omega) (cat_xl (a := 16) (BV_size _) (by omega) (ext_all (BV_size _))))) O<|ala zr22 hS O O fun b4 w hb4 hS =>sa 0 ag22 hS O O O (BV_one _) O (BV_size _) (BV_size _) fun w hS =>wt<|wc_seq<|rg<|mv O O O ?_
 refine wt<|wc_block ?_
 refine wc_loop (σ := Nat) (fun k =>[(2, (.pointer none)), (3, Ptr b11 0), (4, Ptr b4 0), (24, I ((k : Int)))])
  (fun k w => (k ≤ 64) ∧ St w0 [] [(b4, .cells (BV (lastL key k)) 22), (b11, .cells (#[Ptr c 0] ++ (BV (star key) ++ (BV (lastL key 0) ++ BV (blkL key k)))) 139)] w) (fun k => 64 - k) 0 ⟨rfl, rfl, rfl, rfl, trivial⟩ ⟨by omega, hS⟩ ?_
 rintro k w ⟨hk, hS⟩
 refine rg<|lss O O O O<|wt<|wc_seq ?_
 refine wc_if O (fun hc1 =>?_) (fun hc1 =>?_)
 ·try simp only [SB] at hc1
  refine wc_skip<|wt<|wc_seq<|wc_block<|rg<|mv O O O<|asg O O O<|wt<|rg<|la 0 ag22 hS O O O O (BV_size _)<|cv cf72 hS O O O O O (sp_block_Double ((lastL key k)) _) fun w hS =>sa 0 ag22 hS O O O (BV_one _) O (BV_size _) (BV_size _) fun w hS =>?_
  refine wt<|wc_draw mo 7 (fun w =>St w0 [] [(b4, .cells (BV (dblB (lastL key k))) 22)] w)<|have hS := hS.drew; jx (hS.sl 1 1) fun jj =>dx 0 O (by kernel_rfl) (fun w hS =>mv O O O rr) jj<|dx 1 O (by kernel_rfl) (fun w hS =>mv O O O rr) jj<|dx 2 O (by kernel_rfl) (fun w hS =>la 0 ag22 hS O O O O (BV_size _) rr) jj<|dx 3 O (by kernel_rfl) (fun w hS =>nilp O O O rr) jj<|dx 4 O (by kernel_rfl) (fun w hS =>fan 33 33 un139 O sz137 (by decide) O O O O (by omega) rr) jj<|dx 5 O (by kernel_rfl) (fun w hS =>ian k (33 + k * 16) un137 sz22 O O O O (by omega) (by omega) (by omega) rr) jj ?_
  refine dl 6 O (by kernel_rfl)<|spp (cs' := #[Ptr c 0] ++ (BV (star key) ++ (BV (lastL key 0) ++ BV (put8 (blkL key k) (k * 16) (dblB (lastL key k)))))) 1 ag22 hS O O O (BV_one _) O (le_sz (a := 1057) (cat_size (a := 1) (b := 1056) O (cat_size (a := 16) (b := 1040) (BV_size _) (cat_size (a := 16) (b := 1024) (BV_size _) (BV_size _)))) (by omega)) (BV_size _) (cat_pr (a := 1) (o' := 32 + k * 16) O (by omega) (ple2 (BV_size _) (cat_size (a := 16) (b := 1040) (BV_size _) (cat_size (a := 16) (b := 1024) (BV_size _) (BV_size _))) (by omega)) (cat_pr (a := 16) (o' := 16 + k * 16) (BV_size _) (by omega) (ple2 (BV_size _) (cat_size (a := 16) (b := 1024) (BV_size _) (BV_size _)) (by omega)) (cat_pr (a := 16) (o' := k * 16) (BV_size _) (by omega) (ple2 (BV_size _) (BV_size _) (by omega)) (BV_put _ _ _ (by omega))))) fun w hS =>lx (hS.sl 1 1) fun jj =>de (by kernel_rfl)<|q_block_norm<|wt<|wc_region<|addi (by omega) (by omega) O O O O<|mv O O O ?_
  refine again_q (k + 1) ⟨O, O, O, lkI O (by first | omega | rfl), trivial⟩ ⟨by omega, hS⟩ (by omega)
 ·try simp only [SB] at hc1
  refine wc_exit<|q_then_exit<|q_then_exit<|q_block_hit<|wt<|rg<|mv O O O<|asg O O O<|wt<|wc_ret<|fin1 (v := Ptr b11 0) O O ?_
  have hk : k = 64 := by omega
  subst hk
  exact ⟨_, _, rfl, ⟨b11, rfl, rfl⟩, hS.sublist (.cons _ (.cons_cons _ (List.nil_sublist _)))⟩
theorem sp_counter_New (x : UInt64) (w0 : World) : Calls Tryz.prog 28 #[U64 x] w0 (RetS w0 (fun v L => ∃ b, v = Ptr b 0 ∧ L = [(b, .cells #[U64 (mnU x 9223372036854775807), U64 0, .bool false] 151)])) := by
 refine enter (args := [U64 x]) Tryz.func28 O O<|startw fun w hS =>rg<|asg O O O<|wt<|rg<|mv O O O<|minu (q := (9223372036854775807 : UInt64)) O O O O<|bd (cs := #[U64 (mnU x 9223372036854775807), U64 (0), .bool (false)]) O O O (by kernel_rfl)<|bxa hS O O O fun b6 w hb6 hS =>asg O O O<|wt ?_
 refine wc_ret<|fin1 (v := Ptr b6 0) O O ?_
 exact ⟨_, _, rfl, ⟨_, rfl, rfl⟩, hS⟩
theorem sp_filter_New (w0 : World) : Calls Tryz.prog 29 #[] w0 (RetS w0 (fun v L => ∃ b, v = Ptr b 0 ∧ L = [(b, .cells #[I 0, I 0, U64 0] 155)])) := by
 refine enter (args := []) Tryz.func29 O O<|startw fun w hS =>rg<|asg O O O<|wt<|rg<|bd (cs := #[I (0), I (0), U64 (0)]) O O O (by kernel_rfl)<|bxa hS O O O fun b2 w hb2 hS =>asg O O O<|wt<|wc_ret<|fin1 (v := Ptr b2 0) O O ?_
 exact ⟨_, _, rfl, ⟨_, rfl, rfl⟩, hS⟩
theorem sp_echo_New (w0 : World) : Calls Tryz.prog 30 #[] w0 (RetS w0 (fun v L => ∃ b, v = Ptr b 0 ∧ L = [(b, .cells #[.pointer none] 158)])) := by
 refine enter (args := []) Tryz.func30 O O<|startw fun w hS =>rg<|asg O O O<|wt<|rg<|bd (cs := #[(.pointer none)]) O O O (by kernel_rfl)<|bxa hS O O O fun b2 w hb2 hS =>asg O O O<|wt<|wc_ret<|fin1 (v := Ptr b2 0) O O ?_
 exact ⟨_, _, rfl, ⟨_, rfl, rfl⟩, hS⟩
end Go.Proofs.XS
namespace Go.Proofs
open Go.Shelf
def Tryz.lays119_ren : Go.Shelf.Ren := ⟨fun | 119 => 194 | n => n, fun | 21 => 21 | 4 => 4 | n => n, fun | n => n⟩
theorem Tryz.lays119 : Go.Proofs.Lays.n119 Tryz.prog Tryz.lays119_ren := {
  mixed := by kernel_rfl
  f119 := Tryz.func194.trans (congrArg some (by kernel_rfl))
  t4 := Tryz.underlying4
  a4 := Tryz.isAgg4
  z4 := Tryz.sizeOf4
  v4 := Tryz.zeroValue4
  t21 := Tryz.underlying21
  a21 := Tryz.isAgg21
  z21 := Tryz.sizeOf21
  v21 := Tryz.zeroValue21 }
theorem Tryz.utf8_ValidRune (r : Int) (w : World) :
    Calls Tryz.prog 194 #[.int .i32 r] w fun e w' => e = .returned (.bool (Lib.validRune r)) ∧ w' = w := Any.utf8_ValidRune Tryz.lays119 r w
def Tryz.lays137_ren : Go.Shelf.Ren := ⟨fun | 137 => 193 | 217 => 203 | 266 => 206 | n => n, fun | 9 => 9 | 5 => 5 | 3 => 3 | n => n, fun | n => n⟩
theorem Tryz.lays137 : Go.Proofs.Lays.n137 Tryz.prog Tryz.lays137_ren := {
  mixed := by kernel_rfl
  f137 := Tryz.func193.trans (congrArg some (by kernel_rfl))
  f217 := Tryz.func203.trans (congrArg some (by kernel_rfl))
  f266 := Tryz.func206.trans (congrArg some (by kernel_rfl))
  t3 := Tryz.underlying3
  a3 := Tryz.isAgg3
  z3 := Tryz.sizeOf3
  v3 := Tryz.zeroValue3
  t5 := Tryz.underlying5
  a5 := Tryz.isAgg5
  z5 := Tryz.sizeOf5
  v5 := Tryz.zeroValue5
  t9 := Tryz.underlying9
  a9 := Tryz.isAgg9
  z9 := Tryz.sizeOf9
  v9 := Tryz.zeroValue9 }
open Go.RowKit in
theorem Tryz.strings_IndexByte (s : ByteArray) (c : Int) (w : World) :
    Calls Tryz.prog 193 #[.string s, .int .u8 c] w fun e w' => e = .returned (.int .i64 (Lib.indexByte s.data.toList c.toNat.toUInt8)) ∧ w' = w := Any.strings_IndexByte Tryz.lays137 s c w
def Tryz.lays217_ren : Go.Shelf.Ren := ⟨fun | 217 => 203 | 266 => 206 | n => n, fun | 9 => 9 | 5 => 5 | 3 => 3 | n => n, fun | n => n⟩
theorem Tryz.lays217 : Go.Proofs.Lays.n217 Tryz.prog Tryz.lays217_ren := {
  mixed := by kernel_rfl
  f217 := Tryz.func203.trans (congrArg some (by kernel_rfl))
  f266 := Tryz.func206.trans (congrArg some (by kernel_rfl))
  t3 := Tryz.underlying3
  a3 := Tryz.isAgg3
  z3 := Tryz.sizeOf3
  v3 := Tryz.zeroValue3
  t5 := Tryz.underlying5
  a5 := Tryz.isAgg5
  z5 := Tryz.sizeOf5
  v5 := Tryz.zeroValue5
  t9 := Tryz.underlying9
  a9 := Tryz.isAgg9
  z9 := Tryz.sizeOf9
  v9 := Tryz.zeroValue9 }
open Go.RowKit Go.Lib in
theorem Tryz.stringslite_IndexByte (s : ByteArray) (c : Int) (w : World) :
    Calls Tryz.prog 203 #[.string s, .int .u8 c] w fun e w' => e = .returned (.int .i64 (Lib.indexByte s.data.toList c.toNat.toUInt8)) ∧ w' = w := Any.stringslite_IndexByte Tryz.lays217 s c w
def Tryz.lays224_ren : Go.Shelf.Ren := ⟨fun | 224 => 195 | n => n, fun | 3 => 3 | n => n, fun | n => n⟩
theorem Tryz.lays224 : Go.Proofs.Lays.n224 Tryz.prog Tryz.lays224_ren := {
  mixed := by kernel_rfl
  f224 := Tryz.func195.trans (congrArg some (by kernel_rfl))
  t3 := Tryz.underlying3
  a3 := Tryz.isAgg3
  z3 := Tryz.sizeOf3
  v3 := Tryz.zeroValue3 }
open Go.RowKit Go.Lib in
theorem Tryz.bytealg_Cutover (n : Int) (h0 : 0 ≤ n) (h1 : n < 4611686018427387904) (w : World) :
    Calls Tryz.prog 195 #[.int .i64 n] w fun e w' => e = .returned (.int .i64 ((n + 16) / 8)) ∧ w' = w := Any.bytealg_Cutover Tryz.lays224 n h0 h1 w
def Tryz.lays315_ren : Go.Shelf.Ren := ⟨fun | 315 => 164 | n => n, fun | 9 => 9 | 40 => 192 | 4 => 4 | 3 => 3 | 0 => 0 | 21 => 21 | n => n, fun | n => n⟩
theorem Tryz.lays315 : Go.Proofs.Lays.n315 Tryz.prog Tryz.lays315_ren := {
  mixed := by kernel_rfl
  f315 := Tryz.func164.trans (congrArg some (by kernel_rfl))
  t0 := Tryz.underlying0
  a0 := Tryz.isAgg0
  z0 := Tryz.sizeOf0
  v0 := Tryz.zeroValue0
  t3 := Tryz.underlying3
  a3 := Tryz.isAgg3
  z3 := Tryz.sizeOf3
  v3 := Tryz.zeroValue3
  t4 := Tryz.underlying4
  a4 := Tryz.isAgg4
  z4 := Tryz.sizeOf4
  v4 := Tryz.zeroValue4
  t9 := Tryz.underlying9
  a9 := Tryz.isAgg9
  z9 := Tryz.sizeOf9
  v9 := Tryz.zeroValue9
  t21 := Tryz.underlying21
  a21 := Tryz.isAgg21
  z21 := Tryz.sizeOf21
  v21 := Tryz.zeroValue21
  t40 := Tryz.underlying192
  a40 := Tryz.isAgg192
  z40 := Tryz.sizeOf192
  v40 := Tryz.zeroValue192 }
open Go.RowKit Go.Lib in
theorem Tryz.strings_indexFunc (g : Nat) (lb : Array Value) (eg : ∀ args w, (callFunc g args).run Tryz.prog w = .ok (.enter g args) w) (p : Nat → Bool) (truth : Bool) (s : ByteArray) (w : World) (hp : PredAt Tryz.prog g lb encR p w) :
    Calls Tryz.prog 164 #[.string s, .func (.func g) #[] lb, .bool truth] w fun e w' => e = .returned (.int .i64 (Lib.idxFunc p truth s)) ∧ Below w.heap.size w w' := Any.strings_indexFunc Tryz.lays315 g lb eg p truth s w hp
def Tryz.laysGw15_ren : Go.Shelf.Ren := ⟨fun | 15 => 128 | 20 => 164 | n => n, fun | 9 => 9 | 23 => 192 | 3 => 3 | 4 => 4 | 0 => 0 | 21 => 21 | n => n, fun | n => n⟩
theorem Tryz.laysGw15 : Go.Proofs.LaysGw.n15 Tryz.prog Tryz.laysGw15_ren := {
  mixed := by kernel_rfl
  f15 := Tryz.func128.trans (congrArg some (by kernel_rfl))
  f20 := Tryz.func164.trans (congrArg some (by kernel_rfl))
  t0 := Tryz.underlying0
  a0 := Tryz.isAgg0
  z0 := Tryz.sizeOf0
  v0 := Tryz.zeroValue0
  i0 := by kernel_rfl
  t3 := Tryz.underlying3
  a3 := Tryz.isAgg3
  z3 := Tryz.sizeOf3
  v3 := Tryz.zeroValue3
  i3 := by kernel_rfl
  t4 := Tryz.underlying4
  a4 := Tryz.isAgg4
  z4 := Tryz.sizeOf4
  v4 := Tryz.zeroValue4
  i4 := by kernel_rfl
  t9 := Tryz.underlying9
  a9 := Tryz.isAgg9
  z9 := Tryz.sizeOf9
  v9 := Tryz.zeroValue9
  i9 := by kernel_rfl
  t21 := Tryz.underlying21
  a21 := Tryz.isAgg21
  z21 := Tryz.sizeOf21
  v21 := Tryz.zeroValue21
  i21 := by kernel_rfl
  t23 := Tryz.underlying192
  a23 := Tryz.isAgg192
  z23 := Tryz.sizeOf192
  v23 := Tryz.zeroValue192
  i23 := by kernel_rfl }
open Go.RowKit Go.Lib in
theorem Tryz.strings_IndexFunc (g : Nat) (lb : Array Value) (eg : ∀ args w, (callFunc g args).run Tryz.prog w = .ok (.enter g args) w) (p : Nat → Bool) (s : ByteArray) (w : World) (hp : PredAt Tryz.prog g lb encR p w) :
    Calls Tryz.prog 128 #[.string s, .func (.func g) #[] lb] w fun e w' => e = .returned (.int .i64 (Lib.idxFunc p true s)) ∧ Below w.heap.size w w' := Any.strings_IndexFunc Tryz.laysGw15 g lb eg p s w hp
def Tryz.laysGw17_ren : Go.Shelf.Ren := ⟨fun | 17 => 104 | 15 => 128 | 20 => 164 | n => n, fun | 9 => 9 | 23 => 192 | 4 => 4 | 3 => 3 | 0 => 0 | 21 => 21 | n => n, fun | n => n⟩
theorem Tryz.laysGw17 : Go.Proofs.LaysGw.n17 Tryz.prog Tryz.laysGw17_ren := {
  mixed := by kernel_rfl
  f15 := Tryz.func128.trans (congrArg some (by kernel_rfl))
  f17 := Tryz.func104.trans (congrArg some (by kernel_rfl))
  f20 := Tryz.func164.trans (congrArg some (by kernel_rfl))
  t0 := Tryz.underlying0
  a0 := Tryz.isAgg0
  z0 := Tryz.sizeOf0
  v0 := Tryz.zeroValue0
  i0 := by kernel_rfl
  t3 := Tryz.underlying3
  a3 := Tryz.isAgg3
  z3 := Tryz.sizeOf3
  v3 := Tryz.zeroValue3
  i3 := by kernel_rfl
  t4 := Tryz.underlying4
  a4 := Tryz.isAgg4
  z4 := Tryz.sizeOf4
  v4 := Tryz.zeroValue4
  i4 := by kernel_rfl
  t9 := Tryz.underlying9
  a9 := Tryz.isAgg9
  z9 := Tryz.sizeOf9
  v9 := Tryz.zeroValue9
  i9 := by kernel_rfl
  t21 := Tryz.underlying21
  a21 := Tryz.isAgg21
  z21 := Tryz.sizeOf21
  v21 := Tryz.zeroValue21
  i21 := by kernel_rfl
  t23 := Tryz.underlying192
  a23 := Tryz.isAgg192
  z23 := Tryz.sizeOf192
  v23 := Tryz.zeroValue192
  i23 := by kernel_rfl }
open Go.RowKit Go.Lib in
theorem Tryz.strings_ContainsFunc (g : Nat) (lb : Array Value) (eg : ∀ args w, (callFunc g args).run Tryz.prog w = .ok (.enter g args) w) (p : Nat → Bool) (s : ByteArray) (w : World) (hp : PredAt Tryz.prog g lb encR p w) :
    Calls Tryz.prog 104 #[.string s, .func (.func g) #[] lb] w fun e w' => e = .returned (.bool (decide (0 ≤ Lib.idxFunc p true s))) ∧ Below w.heap.size w w' := Any.strings_ContainsFunc Tryz.laysGw17 g lb eg p s w hp
def Tryz.lays152_ren : Go.Shelf.Ren := ⟨fun | 152 => 163 | 137 => 193 | 119 => 194 | 224 => 195 | 225 => 196 | 217 => 203 | 266 => 206 | n => n, fun | 9 => 9 | 21 => 21 | 3 => 3 | 4 => 4 | 5 => 5 | 0 => 0 | 46 => 171 | n => n, fun | n => n⟩
theorem Tryz.lays152 : Go.Proofs.Lays.n152 Tryz.prog Tryz.lays152_ren := {
  mixed := by kernel_rfl
  f119 := Tryz.func194.trans (congrArg some (by kernel_rfl))
  f137 := Tryz.func193.trans (congrArg some (by kernel_rfl))
  f152 := Tryz.func163.trans (congrArg some (by kernel_rfl))
  f217 := Tryz.func203.trans (congrArg some (by kernel_rfl))
  f224 := Tryz.func195.trans (congrArg some (by kernel_rfl))
  f225 := Tryz.func196.trans (congrArg some (by kernel_rfl))
  f266 := Tryz.func206.trans (congrArg some (by kernel_rfl))
  t0 := Tryz.underlying0
  a0 := Tryz.isAgg0
  z0 := Tryz.sizeOf0
  v0 := Tryz.zeroValue0
  t3 := Tryz.underlying3
  a3 := Tryz.isAgg3
  z3 := Tryz.sizeOf3
  v3 := Tryz.zeroValue3
  t4 := Tryz.underlying4
  a4 := Tryz.isAgg4
  z4 := Tryz.sizeOf4
  v4 := Tryz.zeroValue4
  t5 := Tryz.underlying5
  a5 := Tryz.isAgg5
  z5 := Tryz.sizeOf5
  v5 := Tryz.zeroValue5
  t9 := Tryz.underlying9
  a9 := Tryz.isAgg9
  z9 := Tryz.sizeOf9
  v9 := Tryz.zeroValue9
  t21 := Tryz.underlying21
  a21 := Tryz.isAgg21
  z21 := Tryz.sizeOf21
  v21 := Tryz.zeroValue21
  t46 := Tryz.underlying171
  a46 := Tryz.isAgg171
  z46 := Tryz.sizeOf171
  v46 := Tryz.zeroValue171 }
open Go.RowKit Go.Lib in
theorem Tryz.strings_IndexRune_ascii (s : ByteArray) (r : Int) (w : World) (h0 : 0 ≤ r) (h1 : r < 128) :
    Calls Tryz.prog 163 #[.string s, .int .i32 r] w fun e w' => e = .returned (.int .i64 (Lib.indexByte s.data.toList r.toNat.toUInt8)) ∧ w' = w := Any.strings_IndexRune_ascii Tryz.lays152 s r w h0 h1
def Tryz.lays151_ren : Go.Shelf.Ren := ⟨fun | 151 => 127 | 152 => 163 | 137 => 193 | 119 => 194 | 224 => 195 | 225 => 196 | 217 => 203 | 266 => 206 | n => n, fun | 9 => 9 | 21 => 21 | 4 => 4 | 3 => 3 | 5 => 5 | 0 => 0 | 46 => 171 | n => n, fun | n => n⟩
theorem Tryz.lays151 : Go.Proofs.Lays.n151 Tryz.prog Tryz.lays151_ren := {
  mixed := by kernel_rfl
  f119 := Tryz.func194.trans (congrArg some (by kernel_rfl))
  f137 := Tryz.func193.trans (congrArg some (by kernel_rfl))
  f151 := Tryz.func127.trans (congrArg some (by kernel_rfl))
  f152 := Tryz.func163.trans (congrArg some (by kernel_rfl))
  f217 := Tryz.func203.trans (congrArg some (by kernel_rfl))
  f224 := Tryz.func195.trans (congrArg some (by kernel_rfl))
  f225 := Tryz.func196.trans (congrArg some (by kernel_rfl))
  f266 := Tryz.func206.trans (congrArg some (by kernel_rfl))
  t0 := Tryz.underlying0
  a0 := Tryz.isAgg0
  z0 := Tryz.sizeOf0
  v0 := Tryz.zeroValue0
  t3 := Tryz.underlying3
  a3 := Tryz.isAgg3
  z3 := Tryz.sizeOf3
  v3 := Tryz.zeroValue3
  t4 := Tryz.underlying4
  a4 := Tryz.isAgg4
  z4 := Tryz.sizeOf4
  v4 := Tryz.zeroValue4
  t5 := Tryz.underlying5
  a5 := Tryz.isAgg5
  z5 := Tryz.sizeOf5
  v5 := Tryz.zeroValue5
  t9 := Tryz.underlying9
  a9 := Tryz.isAgg9
  z9 := Tryz.sizeOf9
  v9 := Tryz.zeroValue9
  t21 := Tryz.underlying21
  a21 := Tryz.isAgg21
  z21 := Tryz.sizeOf21
  v21 := Tryz.zeroValue21
  t46 := Tryz.underlying171
  a46 := Tryz.isAgg171
  z46 := Tryz.sizeOf171
  v46 := Tryz.zeroValue171 }
open Go.RowKit Go.Lib in
theorem Tryz.strings_ContainsRune_ascii (s : ByteArray) (r : Int) (w : World) (h0 : 0 ≤ r) (h1 : r < 128) :
    Calls Tryz.prog 127 #[.string s, .int .i32 r] w fun e w' => e = .returned (.bool (decide (0 ≤ Lib.indexByte s.data.toList r.toNat.toUInt8))) ∧ w' = w := Any.strings_ContainsRune_ascii Tryz.lays151 s r w h0 h1
open Go.RowKit Go.Lib in
theorem Tryz.strings_indexFunc_grows (g : Nat) (lb : Array Value) (eg : ∀ args w, (callFunc g args).run Tryz.prog w = .ok (.enter g args) w) (p : Nat → Bool) (truth : Bool) (s : ByteArray) (w : World) (hp : PredGrows Tryz.prog g lb p w) :
    Calls Tryz.prog 164 #[.string s, .func (.func g) #[] lb, .bool truth] w fun e w' => e = .returned (.int .i64 (Lib.idxFunc p truth s)) ∧ Below w.heap.size w w' := Any.strings_indexFunc_grows Tryz.lays315 g lb eg p truth s w hp
open Go.RowKit Go.Lib in
theorem Tryz.strings_IndexFunc_grows (g : Nat) (lb : Array Value) (eg : ∀ args w, (callFunc g args).run Tryz.prog w = .ok (.enter g args) w) (p : Nat → Bool) (s : ByteArray) (w : World) (hp : PredGrows Tryz.prog g lb p w) :
    Calls Tryz.prog 128 #[.string s, .func (.func g) #[] lb] w fun e w' => e = .returned (.int .i64 (Lib.idxFunc p true s)) ∧ Below w.heap.size w w' := Any.strings_IndexFunc_grows Tryz.laysGw15 g lb eg p s w hp
open Go.RowKit Go.Lib in
theorem Tryz.strings_ContainsFunc_grows (g : Nat) (lb : Array Value) (eg : ∀ args w, (callFunc g args).run Tryz.prog w = .ok (.enter g args) w) (p : Nat → Bool) (s : ByteArray) (w : World) (hp : PredGrows Tryz.prog g lb p w) :
    Calls Tryz.prog 104 #[.string s, .func (.func g) #[] lb] w fun e w' => e = .returned (.bool (decide (0 ≤ Lib.idxFunc p true s))) ∧ Below w.heap.size w w' := Any.strings_ContainsFunc_grows Tryz.laysGw17 g lb eg p s w hp
end Go.Proofs
namespace Go.Proofs.XS
open Go Go.X Go.Proofs
theorem sp_unicode_utf8_ValidRune (r : Int) (w0 : World) : Calls Tryz.prog 194 #[R32 r] w0 (Ret w0 (.bool (Lib.validRune r))) := ret_same (Tryz.utf8_ValidRune r w0)
theorem sp_strings_IndexByte (s : List UInt8) (c : UInt8) (w0 : World) : Calls Tryz.prog 193 #[Str s, U8 c] w0 (Ret w0 (I (Lib.indexByte s c))) := by
  have h := Tryz.strings_IndexByte ⟨s.toArray⟩ (c.toNat : Int) w0
  have e : ((c.toNat : Int).toNat.toUInt8) = c := by simp
  rw [e] at h; exact ret_same h
theorem sp_IndexRuneHi (r : Int) (w0 : World) (h0 : 128 ≤ r) : Calls Tryz.prog 163 #[Str [46, 58, 45], R32 r] w0 (Ret w0 (I (-1))) := by
 refine enter (args := [Str [46, 58, 45], R32 r]) Tryz.func163 O O<|startw fun w hS =>?_
 have hd3 : ([46, 58, 45] : List UInt8).length = 3 := rfl
 refine rg<|asg O O O<|wt<|wc_block<|rg<|mv O O O<|leq O O O O<|mv O O O ?_
 refine spl 163 O (fun hb1 =>?_) (fun hb1 =>?_)
 ·try simp only [SB] at hb1
  refine mv O O O<|lss O O O O<|pk_t O O O O<|asg O O O<|wt ?_
  refine wc_if O (fun hc1 =>?_) (fun hc1 =>?_)
  ·try simp only [SB] at hc1
   exfalso; omega
  ·try simp only [SB] at hc1
   refine rg<|mv O O O<|eqi O O O O<|asg O O O<|wt ?_
   refine wc_if O (fun hc2 =>?_) (fun hc2 =>?_)
   ·try simp only [SB] at hc2
    refine wc_seq<|rg<|mv O O O<|rgs un9 hS O O O fun b175 w hb175 hS =>wt<|wc_block ?_
    refine wc_loop (σ := Nat) (fun k =>[(175, Ptr b175 0)])
     (fun k w => (k ≤ 3) ∧ St w0 [] [(b175, .stringIter ⟨([46, 58, 45] : List UInt8).toArray⟩ k)] w) (fun k => 3 - k) 0 ⟨rfl, trivial⟩ ⟨by omega, hS⟩ ?_
    rintro k w ⟨hk, hS⟩
    refine rg ?_
    by_cases hb2 : k < ([46, 58, 45] : List UInt8).length
    ·refine nxa 0 hS O O O O hb2 (dots k (by simpa using hb2)) fun w hS =>ext O O O O<|wt<|wc_seq<|wc_if_t O<|wc_skip<|wt<|wc_block<|rg<|ext O O O O<|ext O O O O<|asg O O O ?_
     refine asg O O O<|wt<|rg<|mv O O O<|eqi O O O O<|wt ?_
     refine wc_if O (fun hc3 =>?_) (fun hc3 =>?_)
     ·try simp only [SB] at hc3
      exfalso; have := dots k (by simpa using ‹k < ([46, 58, 45] : List UInt8).length›); omega
     ·try simp only [SB] at hc3
      refine wc_skip<|q_block_norm ?_
      have hlt : k < 3 := by simpa using ‹k < ([46, 58, 45] : List UInt8).length›
      refine again_q (k + 1) ⟨O, trivial⟩ ⟨by omega, hS⟩ (by omega)
    ·refine nxz 0 hS O O O O hb2<|ext O O O O<|wt<|wc_seq<|wc_if_f O<|wc_exit<|q_then_exit<|q_then_exit<|q_block_hit<|wt<|rg<|asg O O O ?_
     refine wt<|wc_ret<|q_block_ret<|fin1 (v := I (-1)) O O ?_
     exact ⟨rfl, hS.drop⟩
   ·try simp only [SB] at hc2
    refine rg<|mv O O O<|cv cf194 hS O O O O O (sp_unicode_utf8_ValidRune r _) fun w hS =>notb O O O<|asg O O O<|wt ?_
    refine wc_if O (fun hc4 =>?_) (fun hc4 =>?_)
    ·try simp only [SB] at hc4
     refine rg<|asg O O O<|wt<|wc_ret<|q_block_ret<|fin1 (v := I (-1)) O O ?_
     exact ⟨rfl, hS.drop⟩
    ·try simp only [SB] at hc4
     have hvr : Lib.validRune r = true := by simpa using hc4
     obtain ⟨hl2, hl4, hl8⟩ := encR_hi r h0 (by simp only [Lib.validRune, Utf8.valid, decide_eq_true_eq, Bool.or_eq_true, Bool.and_eq_true] at hvr ⊢; omega)
     refine wc_scope<|rg<|mv O O O<|cvs un9 ⟨_, un21⟩ O O O<|asg O O O<|wt<|rg<|mv O O O<|lnst un9 O O O<|subi (by omega) (by omega) O O O O<|asg O O O<|wt ?_
     refine rg<|mv O O O<|asg O O O<|wt<|rg<|asg O O O<|wt<|wc_seq<|wc_block ?_
     refine wc_loop (σ := Nat) (fun k =>[(0, Str ([46, 58, 45])), (1, R32 r), (7, Str (encX r)), (8, I ((((encX r).length : Nat) : Int) - 1)), (9, I ((((encX r).length : Nat) : Int) - 1))])
      (fun k w => (True) ∧ St w0 [] [] w) (fun k => 0) 0 ⟨rfl, rfl, rfl, rfl, rfl, trivial⟩ ⟨trivial, hS⟩ ?_
     rintro k w ⟨hk, hS⟩
     refine wc_seq<|rg<|mv O O O<|mv O O O<|lnst un9 O O O<|lss O O O O<|wt ?_
     refine wc_if O (fun hc5 =>?_) (fun hc5 =>?_)
     ·try simp only [SB] at hc5
      refine wc_skip<|wt<|wc_block<|wc_scope<|wc_seq<|rd mo 7 (fun w =>St w0 [] [] w)<|have hS := hS.drew; jx hS fun jj =>dx 0 O (by kernel_rfl) (fun w hS =>mv O O O rr) jj<|dx 1 O (by kernel_rfl) (fun w hS =>mv O O O rr) jj<|dx 2 O (by kernel_rfl) (fun w hS =>ixs ((encX r).length - 1) un9 O O O O (by omega) (by omega) rr) jj<|dx 3 O (by kernel_rfl) (fun w hS =>mv O O O rr) jj<|dx 4 O (by kernel_rfl) (fun w hS =>mv O O O rr) jj ?_
      refine dx 5 O (by kernel_rfl) (fun w hS =>ixs (((encX r).length) - 1) un9 O O O O (by omega) (by omega) rr) jj<|dx 6 O (by kernel_rfl) (fun w hS =>nei O O O O rr) jj<|de (by kernel_rfl)<|wt ?_
      refine wc_if O (fun hc6 =>?_) (fun hc6 =>?_)
      ·try simp only [SB] at hc6
       refine rd mo 8 (fun w =>St w0 [] [] w)<|have hS := hS.drew; jx hS fun jj =>dx 0 O (by kernel_rfl) (fun w hS =>mv O O O rr) jj<|dx 1 O (by kernel_rfl) (fun w hS =>mv O O O rr) jj<|dx 2 O (by kernel_rfl) (fun w hS =>addi (by omega) (by omega) O O O O rr) jj<|dx 3 O (by kernel_rfl) (fun w hS =>ssl (((encX r).length - 1) + 1) un9 O O O O (by omega) (by omega) rr) jj<|dx 4 O (by kernel_rfl) (fun w hS =>mv O O O rr) jj<|dx 5 O (by kernel_rfl) (fun w hS =>mv O O O rr) jj<|dx 6 O (by kernel_rfl) (fun w hS =>ixs (((encX r).length) - 1) un9 O O O O (by omega) (by omega) rr) jj ?_
       refine dl 7 O (by kernel_rfl)<|cv cf193 hS O O O O O (sp_strings_IndexByte ((([46, 58, 45]).drop (((encX r).length - 1) + 1))) ((gl (encX r) (((encX r).length) - 1))) _) fun w hS =>lx hS fun jj =>?_
       refine dl 8 O (by kernel_rfl)<|asg O O O<|ly O<|de (by kernel_rfl)<|wt<|wc_seq<|rg<|mv O O O<|lss O O O O<|wt ?_
       refine wc_if O (fun hc7 =>?_) (fun hc7 =>?_)
       ·try simp only [SB] at hc7
        refine rg<|asg O O O<|wt<|wc_ret<|q_then_ret<|q_then_ret<|q_scope_ret<|q_block_ret<|q_then_ret<|q_block_ret<|q_then_ret<|q_scope_ret ?_
        refine q_block_ret<|fin1 (v := I (-1)) O O ?_
        exact ⟨rfl, hS.drop⟩
       ·try simp only [SB] at hc7
        exfalso; rw [ixB_hi _ (by omega) _ hl8] at hc7; omega
      ·try simp only [SB] at hc6
       exfalso; have := dots ((encX r).length - 1) (by omega); omega
     ·try simp only [SB] at hc5
      refine wc_exit<|q_then_exit<|q_then_exit<|q_block_hit<|wt<|wc_seq<|rg<|asg O O O<|wt<|wc_ret<|q_then_ret<|q_scope_ret ?_
      refine q_block_ret<|fin1 (v := I (-1)) O O ?_
      exact ⟨rfl, hS.drop⟩
 ·try simp only [SB] at hb1
  exfalso; omega
theorem sp_strings_IndexRune (r : Int) (w0 : World) (h0 : 0 ≤ r) : Calls Tryz.prog 163 #[Str [46, 58, 45], R32 r] w0 (Ret w0 (I (ixR r))) := by
  by_cases h1 : r < 128
  · have h := Tryz.strings_IndexRune_ascii ⟨#[46, 58, 45]⟩ r w0 h0 h1
    rw [ixR_lo r h0 h1] at h
    exact ret_same h
  · have e : ixR r = -1 := by unfold ixR; rw [if_neg (by omega), if_neg (by omega), if_neg (by omega)]
    rw [e]; exact sp_IndexRuneHi r w0 (by omega)
theorem sp_strings_ContainsRune (r : Int) (w0 : World) (h0 : 0 ≤ r) : Calls Tryz.prog 127 #[Str [46, 58, 45], R32 r] w0 (Ret w0 (.bool (decide ((ixR r) ≥ (0 : Int))))) := by
 refine enter (args := [Str [46, 58, 45], R32 r]) Tryz.func127 O O<|startw fun w hS =>rg<|asg O O O<|wt<|rg<|mv O O O<|mv O O O<|cv cf163 hS O O O O O (sp_strings_IndexRune r _ (by omega)) fun w hS =>geq O O O O<|asg O O O<|wt ?_
 refine wc_ret<|fin1 (v := .bool (decide ((ixR r) ≥ 0))) O O ?_
 exact ⟨rfl, hS.drop⟩
theorem sp_peer_right (c : Int) (w0 : World) (h0 : 0 ≤ c) (h1 : c ≤ 1114111) : Calls Tryz.prog 103 #[R32 c] w0 (Ret w0 (.bool (okR c))) := by
 refine enter (args := [R32 c]) Tryz.func103 O O<|startw fun w hS =>rg<|asg O O O<|wt<|rg<|mv O O O<|geq O O O O<|mv O O O ?_
 refine spl 5 O (fun hb1 =>?_) (fun hb1 =>?_)
 ·try simp only [SB] at hb1
  refine mv O O O<|leq O O O O<|pk_t O O O O<|mv O O O ?_
  refine spl 9 O (fun hb2 =>?_) (fun hb2 =>?_)
  ·try simp only [SB] at hb2
   refine no O O<|no O O<|no O O<|no O O<|no O O<|no O O<|pk_t O O O O<|mv O O O<|no O O<|no O O<|no O O<|no O O ?_
   refine no O O<|no O O<|pk_t O O O O<|mv O O O<|no O O<|no O O<|pk_t O O O O<|asg O O O<|wt<|wc_ret<|fin1 (v := .bool true) O O ?_
   refine ⟨?_, hS.drop⟩
   congr 2
   have hx := ixR_ok c
   simp only [okR]
   first | (exact (decide_eq_true (by omega)).symm) | (congr 1; apply propext; omega)
  ·try simp only [SB] at hb2
   refine mv O O O<|geq O O O O<|mv O O O ?_
   refine spl 12 O (fun hb3 =>?_) (fun hb3 =>?_)
   ·try simp only [SB] at hb3
    refine mv O O O<|leq O O O O<|pk_t O O O O<|pk_f O O O O<|mv O O O ?_
    refine spl 17 O (fun hb4 =>?_) (fun hb4 =>?_)
    ·try simp only [SB] at hb4
     exfalso; omega
    ·try simp only [SB] at hb4
     refine mv O O O<|geq O O O O<|mv O O O ?_
     refine spl 20 O (fun hb5 =>?_) (fun hb5 =>?_)
     ·try simp only [SB] at hb5
      refine mv O O O<|leq O O O O<|pk_t O O O O<|pk_f O O O O<|mv O O O ?_
      refine spl 25 O (fun hb6 =>?_) (fun hb6 =>?_)
      ·try simp only [SB] at hb6
       exfalso; omega
      ·try simp only [SB] at hb6
       refine mv O O O<|cv cf127 hS O O O O O (sp_strings_ContainsRune c _ (by omega)) fun w hS =>pk_f O O O O<|asg O O O<|wt<|wc_ret<|fin1 (v := .bool (decide ((ixR c) ≥ (0 : Int)))) O O ?_
       refine ⟨?_, hS.drop⟩
       congr 2
       have hx := ixR_ok c
       simp only [okR]
       first | (exact (decide_eq_true (by omega)).symm) | (congr 1; apply propext; omega)
     ·try simp only [SB] at hb5
      exfalso; omega
   ·try simp only [SB] at hb3
    exfalso; omega
 ·try simp only [SB] at hb1
  refine no O O<|no O O<|pk_f O O O O<|mv O O O<|mv O O O<|geq O O O O<|mv O O O ?_
  refine spl 12 O (fun hb7 =>?_) (fun hb7 =>?_)
  ·try simp only [SB] at hb7
   refine mv O O O<|leq O O O O<|pk_t O O O O<|pk_f O O O O<|mv O O O ?_
   refine spl 17 O (fun hb8 =>?_) (fun hb8 =>?_)
   ·try simp only [SB] at hb8
    refine no O O<|no O O<|no O O<|no O O<|no O O<|no O O<|pk_t O O O O<|mv O O O<|no O O<|no O O<|pk_t O O O O<|asg O O O ?_
    refine wt<|wc_ret<|fin1 (v := .bool true) O O ?_
    refine ⟨?_, hS.drop⟩
    congr 2
    have hx := ixR_ok c
    simp only [okR]
    first | (exact (decide_eq_true (by omega)).symm) | (congr 1; apply propext; omega)
   ·try simp only [SB] at hb8
    refine mv O O O<|geq O O O O<|mv O O O ?_
    refine spl 20 O (fun hb9 =>?_) (fun hb9 =>?_)
    ·try simp only [SB] at hb9
     refine mv O O O<|leq O O O O<|pk_t O O O O<|pk_f O O O O<|mv O O O ?_
     refine spl 25 O (fun hb10 =>?_) (fun hb10 =>?_)
     ·try simp only [SB] at hb10
      exfalso; omega
     ·try simp only [SB] at hb10
      refine mv O O O<|cv cf127 hS O O O O O (sp_strings_ContainsRune c _ (by omega)) fun w hS =>pk_f O O O O<|asg O O O<|wt<|wc_ret<|fin1 (v := .bool (decide ((ixR c) ≥ (0 : Int)))) O O ?_
      refine ⟨?_, hS.drop⟩
      congr 2
      have hx := ixR_ok c
      simp only [okR]
      first | (exact (decide_eq_true (by omega)).symm) | (congr 1; apply propext; omega)
    ·try simp only [SB] at hb9
     exfalso; omega
  ·try simp only [SB] at hb7
   refine no O O<|no O O<|pk_f O O O O<|pk_f O O O O<|mv O O O<|mv O O O<|geq O O O O<|mv O O O ?_
   refine spl 20 O (fun hb11 =>?_) (fun hb11 =>?_)
   ·try simp only [SB] at hb11
    refine mv O O O<|leq O O O O<|pk_t O O O O<|pk_f O O O O<|mv O O O ?_
    refine spl 25 O (fun hb12 =>?_) (fun hb12 =>?_)
    ·try simp only [SB] at hb12
     refine no O O<|no O O<|pk_t O O O O<|asg O O O<|wt<|wc_ret<|fin1 (v := .bool true) O O ?_
     refine ⟨?_, hS.drop⟩
     congr 2
     have hx := ixR_ok c
     simp only [okR]
     first | (exact (decide_eq_true (by omega)).symm) | (congr 1; apply propext; omega)
    ·try simp only [SB] at hb12
     refine mv O O O<|cv cf127 hS O O O O O (sp_strings_ContainsRune c _ (by omega)) fun w hS =>pk_f O O O O<|asg O O O<|wt<|wc_ret<|fin1 (v := .bool (decide ((ixR c) ≥ (0 : Int)))) O O ?_
     refine ⟨?_, hS.drop⟩
     congr 2
     have hx := ixR_ok c
     simp only [okR]
     first | (exact (decide_eq_true (by omega)).symm) | (congr 1; apply propext; omega)
   ·try simp only [SB] at hb11
    refine no O O<|no O O<|pk_f O O O O<|pk_f O O O O<|mv O O O<|mv O O O<|cv cf127 hS O O O O O (sp_strings_ContainsRune c _ (by omega)) fun w hS =>pk_f O O O O<|asg O O O<|wt<|wc_ret<|fin1 (v := .bool (decide ((ixR c) ≥ (0 : Int)))) O O ?_
    refine ⟨?_, hS.drop⟩
    congr 2
    have hx := ixR_ok c
    simp only [okR]
    first | (exact (decide_eq_true (by omega)).symm) | (congr 1; apply propext; omega)
theorem sp_peer_Right_1 (c : Int) (w0 : World) (h0 : 0 ≤ c) (h1 : c ≤ 1114111) : Calls Tryz.prog 102 #[R32 c] w0 (Ret w0 (.bool (!okR c))) := by
 refine enter (args := [R32 c]) Tryz.func102 O O<|startw fun w hS =>rg<|asg O O O<|wt<|rg<|mv O O O<|cv cf103 hS O O O O O (sp_peer_right c _ (by omega) (by omega)) fun w hS =>notb O O O<|asg O O O<|wt<|wc_ret ?_
 refine fin1 (v := .bool (!(okR c))) O O ?_
 exact ⟨rfl, hS.drop⟩
theorem sp_strings_ContainsFunc (s : List UInt8) (w0 : World) : Calls Tryz.prog 104 #[Str s, .func (.func 102) #[] #[]] w0 (Ret w0 (.bool (!s.all okB))) := by
  rw [← idx_all]
  exact ret_below (Tryz.strings_ContainsFunc_grows 102 #[] (fun args w => run_callFunc cf102 args w) badR ⟨s.toArray⟩ w0 (fun W x hx _ =>
    (sp_peer_Right_1 (x : Int) W (by omega) (by omega)).mono fun e w' h => ⟨h.1, h.2.below⟩))
theorem sp_peer_Right (s : List UInt8) (w0 : World) : Calls Tryz.prog 70 #[Str s] w0 (Ret w0 (.bool (okA s))) := by
 refine enter (args := [Str s]) Tryz.func70 O O<|startw fun w hS =>rg<|asg O O O<|wt<|rg<|asg O O O<|wt<|rg<|mv O O O<|nes O O O O<|mv O O O ?_
 refine spl 6 O (fun hb1 =>?_) (fun hb1 =>?_)
 ·try simp only [SB] at hb1
  refine mv O O O<|lnst un9 O O O<|leq O O O O<|pk_t O O O O<|mv O O O ?_
  refine spl 11 O (fun hb2 =>?_) (fun hb2 =>?_)
  ·try simp only [SB] at hb2
   refine mv O O O<|mv O O O<|cv cf104 hS O O O O O (sp_strings_ContainsFunc s _) fun w hS =>notb O O O<|pk_t O O O O<|asg O O O<|wt<|wc_ret<|fin1 (v := .bool (!(!(s).all okB))) O O ?_
   refine ⟨?_, hS.drop⟩
   congr 2
   first | (rw [okA]; simp_all; done) | (rw [okA, decide_eq_true (by simp_all; omega)]; simp_all; done) | (rw [okA, decide_eq_false (by simp_all; omega)]; simp_all; done)
  ·try simp only [SB] at hb2
   refine no O O<|no O O<|no O O<|no O O<|pk_f O O O O<|asg O O O<|wt<|wc_ret<|fin1 (v := .bool false) O O ?_
   refine ⟨?_, hS.drop⟩
   congr 2
   first | (rw [okA]; simp_all; done) | (rw [okA, decide_eq_true (by simp_all; omega)]; simp_all; done) | (rw [okA, decide_eq_false (by simp_all; omega)]; simp_all; done)
 ·try simp only [SB] at hb1
  refine no O O<|no O O<|no O O<|pk_f O O O O<|mv O O O<|no O O<|no O O<|no O O<|no O O<|pk_f O O O O<|asg O O O<|wt ?_
  refine wc_ret<|fin1 (v := .bool false) O O ?_
  refine ⟨?_, hS.drop⟩
  congr 2
  first | (rw [okA]; simp_all; done) | (rw [okA, decide_eq_true (by simp_all; omega)]; simp_all; done) | (rw [okA, decide_eq_false (by simp_all; omega)]; simp_all; done)
theorem sp_peer_New (s : List UInt8) (w0 : World) : Calls Tryz.prog 24 #[Str s] w0 (RetS w0 (fun v L => ∃ b m, v = Ptr b 0 ∧ L = [(b, .cells #[Str (adA s), .bool false, I ((0 : Nat) : Int), .map (some m)] 135), (m, mOb encS vI [])])) := by
 refine enter (args := [Str s]) Tryz.func24 O O<|startw fun w hS =>rg<|asg O O O<|wt<|rg<|mkm hS O O encS vI fun b4 w hb4 hS =>bd (cs := #[Str ([]), .bool (false), I (0), .map (some b4)]) O O O (by kernel_rfl)<|bxa hS O O O fun b6 w hb6 hS =>asg O O O<|wt<|wc_seq ?_
 refine rg<|mv O O O<|cv cf70 hS O O O O O (sp_peer_Right s _) fun w hS =>wt ?_
 refine wc_if O (fun hc1 =>?_) (fun hc1 =>?_)
 ·try simp only [SB] at hc1
  refine wc_region<|mv O O O<|mv O O O<|nilp O O O<|fan 0 0 un135 O sz9 (by decide) O O O O (by omega)<|st 0 sz9 hS O O O O O O (by show (0 : Nat) < 4; decide) O fun w hS =>wt<|rg<|mv O O O<|asg O O O<|wt<|wc_ret ?_
  refine fin1 (v := Ptr b6 0) O O ?_
  first | exact ⟨_, _, rfl, ⟨_, _, rfl, rfl⟩, hS⟩ | (have e : adA s = s := if_pos hc1; exact ⟨_, _, rfl, ⟨_, _, rfl, rfl⟩, by rw [e]; exact hS⟩) | (have e : adA s = [] := if_neg (by simp [hc1]); exact ⟨_, _, rfl, ⟨_, _, rfl, rfl⟩, by rw [e]; exact hS⟩)
 ·try simp only [SB] at hc1
  refine wc_skip<|wt<|rg<|mv O O O<|asg O O O<|wt<|wc_ret<|fin1 (v := Ptr b6 0) O O ?_
  first | exact ⟨_, _, rfl, ⟨_, _, rfl, rfl⟩, hS⟩ | (have e : adA s = s := if_pos hc1; exact ⟨_, _, rfl, ⟨_, _, rfl, rfl⟩, by rw [e]; exact hS⟩) | (have e : adA s = [] := if_neg (by simp [hc1]); exact ⟨_, _, rfl, ⟨_, _, rfl, rfl⟩, by rw [e]; exact hS⟩)
theorem sp_peer_Fixed (s : List UInt8) (w0 : World) : Calls Tryz.prog 25 #[Str s] w0 (RetS w0 (fun v L => ∃ b m, v = Ptr b 0 ∧ L = [(b, .cells #[Str (adA s), .bool true, I ((0 : Nat) : Int), .map (some m)] 135), (m, mOb encS vI [])])) := by
 refine enter (args := [Str s]) Tryz.func25 O O<|startw fun w hS =>rg<|asg O O O<|wt<|rg<|mv O O O<|cs cf24 hS O O O O O (sp_peer_New s _) ?_
 rintro _ _ w ⟨b5, m5, rfl, rfl⟩ hS
 refine asg O O O<|wt<|rg<|mv O O O<|nilp O O O<|fan 1 1 un135 O sz4 (by decide) O O O O (by omega)<|st 0 sz4 hS O O O O O O (by show (1 : Nat) < 4; decide) O fun w hS =>wt<|rg<|mv O O O<|asg O O O<|wt ?_
 refine wc_ret<|fin1 (v := Ptr b5 0) O O ?_
 first | exact ⟨_, _, rfl, ⟨_, _, rfl, rfl⟩, hS⟩ | (have e : adA s = s := if_pos hc1; exact ⟨_, _, rfl, ⟨_, _, rfl, rfl⟩, by rw [e]; exact hS⟩) | (have e : adA s = [] := if_neg (by simp [hc1]); exact ⟨_, _, rfl, ⟨_, _, rfl, rfl⟩, by rw [e]; exact hS⟩)
theorem sp_session_New (key : V8 16) (d : Nat) (ad : List UInt8) (nx : UInt64) (d_ : Int) (w0 : World) (hd_ : d_ = (d : Int)) (hd : d ≤ 1) : Calls Tryz.prog 9 #[.agg (BV key), I d_, Str ad, U64 nx] w0 (RetS w0 (fun v L => ∃ s, v = .tuple #[Ptr s 0, .nilIface] ∧ SesO s (sesN key d ad nx) L)) := by
 subst hd_
 refine enter (args := [.agg (BV key), I (d : Int), Str ad, U64 nx]) Tryz.func9 O O<|startw fun w hS =>rg<|bxa hS O O O fun b4 w hb4 hS =>asg O O O<|asg O O O<|wt<|wc_seq<|rg<|mv O O O<|nei O O O O<|mv O O O ?_
 refine spl 13 O (fun hb1 =>?_) (fun hb1 =>?_)
 ·try simp only [SB] at hb1
  refine mv O O O<|nei O O O O<|pk_t O O O O<|wt ?_
  refine wc_if O (fun hc1 =>?_) (fun hc1 =>?_)
  ·try simp only [SB] at hc1
   exfalso; omega
  ·try simp only [SB] at hc1
   refine wc_skip<|wt<|rg<|asg O O O<|wt<|wc_seq<|rg<|mv O O O<|eqi O O O O<|wt ?_
   refine wc_if O (fun hc2 =>?_) (fun hc2 =>?_)
   ·try simp only [SB] at hc2
    refine wc_region<|asg O O O<|wt<|rd mo 15 (fun w =>St w0 [] [(b4, .cells (BV key) 22)] w)<|have hS := hS.drew; jx (hS.sl 1 1) fun jj =>dx 0 O (by kernel_rfl) (fun w hS =>mv O O O rr) jj<|dx 1 O (by kernel_rfl) (fun w hS =>mv O O O rr) jj<|dx 3 O (by kernel_rfl) (fun w hS =>mv O O O rr) jj<|dx 4 O (by kernel_rfl) (fun w hS =>la 0 ag22 hS O O O O (BV_size _) rr) jj<|dx 7 O (by kernel_rfl) (fun w hS =>mv O O O rr) jj<|dx 11 O (by kernel_rfl) (fun w hS =>mv O O O rr) jj<|dx 12 O (by kernel_rfl) (fun w hS =>minu (q := (9223372036854775807 : UInt64)) O O O O rr) jj ?_
    refine dl 2 O (by kernel_rfl)<|cs cf25 hS O O O O O (sp_peer_Fixed ad _) ?_
    rintro _ _ w ⟨b22, m22, rfl, rfl⟩ hS
    refine lx (hS.sl 3 4) fun jj =>?_
    refine dl 5 O (by kernel_rfl)<|cs cf27 hS O O O O O (sp_fast_New key _) ?_
    rintro _ _ w ⟨c25, rfl, rfl⟩ hS
    refine lx (hS.sl 4 8) fun jj =>?_
    refine dl 6 O (by kernel_rfl)<|cs cf26 hS O O O O O (sp_table_New c25 _ key _ (hS.get 0 O)) ?_
    rintro _ _ w ⟨t26, rfl, rfl⟩ hS
    refine lx (hS.sl 5 16) fun jj =>?_
    refine dl 8 O (by kernel_rfl)<|cs cf28 hS O O O O O (sp_counter_New nx _) ?_
    rintro _ _ w ⟨b28, rfl, rfl⟩ hS
    refine lx (hS.sl 6 32) fun jj =>?_
    refine dl 9 O (by kernel_rfl)<|cs cf29 hS O O O O O (sp_filter_New _) ?_
    rintro _ _ w ⟨b29, rfl, rfl⟩ hS
    refine lx (hS.sl 7 64) fun jj =>?_
    refine dl 10 O (by kernel_rfl)<|cs cf30 hS O O O O O (sp_echo_New _) ?_
    rintro _ _ w ⟨b30, rfl, rfl⟩ hS
    refine lx (hS.sl 8 128) fun jj =>dx 13 O (by kernel_rfl) (fun w hS =>bd (cs := #[Ptr b22 0, I ((d : Int)), Ptr t26 0, Ptr b28 0, Ptr b29 0, Ptr b30 0, U16 (0), I (0), U32 (0), U64 (mnU nx 9223372036854775807), .bool (false)]) O O O (by kernel_rfl) rr) jj ?_
    refine dl 14 O (by kernel_rfl)<|bxa hS O O O fun b34 w hb34 hS =>lx (hS.sl 9 256) fun jj =>?_
    refine dl 15 O (by kernel_rfl)<|asg O O O<|ly O ?_
    refine dl 16 O (by kernel_rfl)<|asg O O O<|ly O<|de (by kernel_rfl)<|wt<|wc_ret<|fin2 (v := Ptr b34 0) (u := .nilIface) O O O ?_
    have e : decide (d = 0) = true := by rw [decide_eq_true (by omega)]
    have hS2 : St w0 [] ([(b34, .cells (#[Ptr b22 0, I ((d : Int)), Ptr t26 0, Ptr b28 0, Ptr b29 0, Ptr b30 0, U16 (0), I (0), U32 (0), U64 (mnU nx 9223372036854775807), .bool (false)]) 90), (b29, .cells (#[I (0), I (0), U64 (0)]) 155), (b28, .cells (#[U64 (mnU nx 9223372036854775807), U64 (0), .bool (false)]) 151), (t26, .cells (tableC c25 key) 139), (c25, .cells (cipherC key) 147), (b22, .cells (#[Str (adA ad), .bool (true), I (((0 : Nat) : Int)), .map (some m22)]) 135), (m22, mOb encS vI ([]))] ++ [(b30, .cells (#[(.pointer none)]) 158)]) w := St.toend (A := [(b34, .cells (#[Ptr b22 0, I ((d : Int)), Ptr t26 0, Ptr b28 0, Ptr b29 0, Ptr b30 0, U16 (0), I (0), U32 (0), U64 (mnU nx 9223372036854775807), .bool (false)]) 90), (b30, .cells (#[(.pointer none)]) 158), (b29, .cells (#[I (0), I (0), U64 (0)]) 155), (b28, .cells (#[U64 (mnU nx 9223372036854775807), U64 (0), .bool (false)]) 151), (t26, .cells (tableC c25 key) 139), (c25, .cells (cipherC key) 147), (b22, .cells (#[Str (adA ad), .bool (true), I (((0 : Nat) : Int)), .map (some m22)]) 135), (m22, mOb encS vI ([]))]) (R := []) ((hS.sublist (List.sublist_append_left [(b34, .cells (#[Ptr b22 0, I ((d : Int)), Ptr t26 0, Ptr b28 0, Ptr b29 0, Ptr b30 0, U16 (0), I (0), U32 (0), U64 (mnU nx 9223372036854775807), .bool (false)]) 90), (b30, .cells (#[(.pointer none)]) 158), (b29, .cells (#[I (0), I (0), U64 (0)]) 155), (b28, .cells (#[U64 (mnU nx 9223372036854775807), U64 (0), .bool (false)]) 151), (t26, .cells (tableC c25 key) 139), (c25, .cells (cipherC key) 147), (b22, .cells (#[Str (adA ad), .bool (true), I (((0 : Nat) : Int)), .map (some m22)]) 135), (m22, mOb encS vI ([]))] [_])).napp) 1 rfl
    exact ⟨_, _, rfl, ⟨_, rfl, b22, m22, b28, b29, b30, t26, c25, _, _, _, _, _, _, _, _, hd, ⟨_, .inl ⟨rfl, rfl⟩⟩, by rw [show (sesN key d ad nx).fx = true from e]; rfl⟩, hS2⟩
   ·try simp only [SB] at hc2
    refine wc_skip<|wt<|rd mo 15 (fun w =>St w0 [] [(b4, .cells (BV key) 22)] w)<|have hS := hS.drew; jx (hS.sl 1 1) fun jj =>dx 0 O (by kernel_rfl) (fun w hS =>mv O O O rr) jj<|dx 1 O (by kernel_rfl) (fun w hS =>mv O O O rr) jj<|dx 3 O (by kernel_rfl) (fun w hS =>mv O O O rr) jj<|dx 4 O (by kernel_rfl) (fun w hS =>la 0 ag22 hS O O O O (BV_size _) rr) jj<|dx 7 O (by kernel_rfl) (fun w hS =>mv O O O rr) jj<|dx 11 O (by kernel_rfl) (fun w hS =>mv O O O rr) jj<|dx 12 O (by kernel_rfl) (fun w hS =>minu (q := (9223372036854775807 : UInt64)) O O O O rr) jj ?_
    refine dl 2 O (by kernel_rfl)<|cs cf24 hS O O O O O (sp_peer_New ad _) ?_
    rintro _ _ w ⟨b22, m22, rfl, rfl⟩ hS
    refine lx (hS.sl 3 4) fun jj =>?_
    refine dl 5 O (by kernel_rfl)<|cs cf27 hS O O O O O (sp_fast_New key _) ?_
    rintro _ _ w ⟨c25, rfl, rfl⟩ hS
    refine lx (hS.sl 4 8) fun jj =>?_
    refine dl 6 O (by kernel_rfl)<|cs cf26 hS O O O O O (sp_table_New c25 _ key _ (hS.get 0 O)) ?_
    rintro _ _ w ⟨t26, rfl, rfl⟩ hS
    refine lx (hS.sl 5 16) fun jj =>?_
    refine dl 8 O (by kernel_rfl)<|cs cf28 hS O O O O O (sp_counter_New nx _) ?_
    rintro _ _ w ⟨b28, rfl, rfl⟩ hS
    refine lx (hS.sl 6 32) fun jj =>?_
    refine dl 9 O (by kernel_rfl)<|cs cf29 hS O O O O O (sp_filter_New _) ?_
    rintro _ _ w ⟨b29, rfl, rfl⟩ hS
    refine lx (hS.sl 7 64) fun jj =>?_
    refine dl 10 O (by kernel_rfl)<|cs cf30 hS O O O O O (sp_echo_New _) ?_
    rintro _ _ w ⟨b30, rfl, rfl⟩ hS
    refine lx (hS.sl 8 128) fun jj =>dx 13 O (by kernel_rfl) (fun w hS =>bd (cs := #[Ptr b22 0, I ((d : Int)), Ptr t26 0, Ptr b28 0, Ptr b29 0, Ptr b30 0, U16 (0), I (0), U32 (0), U64 (mnU nx 9223372036854775807), .bool (false)]) O O O (by kernel_rfl) rr) jj ?_
    refine dl 14 O (by kernel_rfl)<|bxa hS O O O fun b34 w hb34 hS =>lx (hS.sl 9 256) fun jj =>?_
    refine dl 15 O (by kernel_rfl)<|asg O O O<|ly O ?_
    refine dl 16 O (by kernel_rfl)<|asg O O O<|ly O<|de (by kernel_rfl)<|wt<|wc_ret<|fin2 (v := Ptr b34 0) (u := .nilIface) O O O ?_
    have e : decide (d = 0) = false := by rw [decide_eq_false (by omega)]
    have hS2 : St w0 [] ([(b34, .cells (#[Ptr b22 0, I ((d : Int)), Ptr t26 0, Ptr b28 0, Ptr b29 0, Ptr b30 0, U16 (0), I (0), U32 (0), U64 (mnU nx 9223372036854775807), .bool (false)]) 90), (b29, .cells (#[I (0), I (0), U64 (0)]) 155), (b28, .cells (#[U64 (mnU nx 9223372036854775807), U64 (0), .bool (false)]) 151), (t26, .cells (tableC c25 key) 139), (c25, .cells (cipherC key) 147), (b22, .cells (#[Str (adA ad), .bool (false), I (((0 : Nat) : Int)), .map (some m22)]) 135), (m22, mOb encS vI ([]))] ++ [(b30, .cells (#[(.pointer none)]) 158)]) w := St.toend (A := [(b34, .cells (#[Ptr b22 0, I ((d : Int)), Ptr t26 0, Ptr b28 0, Ptr b29 0, Ptr b30 0, U16 (0), I (0), U32 (0), U64 (mnU nx 9223372036854775807), .bool (false)]) 90), (b30, .cells (#[(.pointer none)]) 158), (b29, .cells (#[I (0), I (0), U64 (0)]) 155), (b28, .cells (#[U64 (mnU nx 9223372036854775807), U64 (0), .bool (false)]) 151), (t26, .cells (tableC c25 key) 139), (c25, .cells (cipherC key) 147), (b22, .cells (#[Str (adA ad), .bool (false), I (((0 : Nat) : Int)), .map (some m22)]) 135), (m22, mOb encS vI ([]))]) (R := []) ((hS.sublist (List.sublist_append_left [(b34, .cells (#[Ptr b22 0, I ((d : Int)), Ptr t26 0, Ptr b28 0, Ptr b29 0, Ptr b30 0, U16 (0), I (0), U32 (0), U64 (mnU nx 9223372036854775807), .bool (false)]) 90), (b30, .cells (#[(.pointer none)]) 158), (b29, .cells (#[I (0), I (0), U64 (0)]) 155), (b28, .cells (#[U64 (mnU nx 9223372036854775807), U64 (0), .bool (false)]) 151), (t26, .cells (tableC c25 key) 139), (c25, .cells (cipherC key) 147), (b22, .cells (#[Str (adA ad), .bool (false), I (((0 : Nat) : Int)), .map (some m22)]) 135), (m22, mOb encS vI ([]))] [_])).napp) 1 rfl
    exact ⟨_, _, rfl, ⟨_, rfl, b22, m22, b28, b29, b30, t26, c25, _, _, _, _, _, _, _, _, hd, ⟨_, .inl ⟨rfl, rfl⟩⟩, by rw [show (sesN key d ad nx).fx = false from e]; rfl⟩, hS2⟩
 ·try simp only [SB] at hb1
  refine no O O<|no O O<|pk_f O O O O<|wt<|wc_if_f O<|wc_skip<|wt<|rg<|asg O O O<|wt<|wc_seq<|rg ?_
  refine mv O O O<|eqi O O O O<|wt ?_
  refine wc_if O (fun hc3 =>?_) (fun hc3 =>?_)
  ·try simp only [SB] at hc3
   refine wc_region<|asg O O O<|wt<|rd mo 15 (fun w =>St w0 [] [(b4, .cells (BV key) 22)] w)<|have hS := hS.drew; jx (hS.sl 1 1) fun jj =>dx 0 O (by kernel_rfl) (fun w hS =>mv O O O rr) jj<|dx 1 O (by kernel_rfl) (fun w hS =>mv O O O rr) jj<|dx 3 O (by kernel_rfl) (fun w hS =>mv O O O rr) jj<|dx 4 O (by kernel_rfl) (fun w hS =>la 0 ag22 hS O O O O (BV_size _) rr) jj<|dx 7 O (by kernel_rfl) (fun w hS =>mv O O O rr) jj<|dx 11 O (by kernel_rfl) (fun w hS =>mv O O O rr) jj<|dx 12 O (by kernel_rfl) (fun w hS =>minu (q := (9223372036854775807 : UInt64)) O O O O rr) jj ?_
   refine dl 2 O (by kernel_rfl)<|cs cf25 hS O O O O O (sp_peer_Fixed ad _) ?_
   rintro _ _ w ⟨b22, m22, rfl, rfl⟩ hS
   refine lx (hS.sl 3 4) fun jj =>?_
   refine dl 5 O (by kernel_rfl)<|cs cf27 hS O O O O O (sp_fast_New key _) ?_
   rintro _ _ w ⟨c25, rfl, rfl⟩ hS
   refine lx (hS.sl 4 8) fun jj =>?_
   refine dl 6 O (by kernel_rfl)<|cs cf26 hS O O O O O (sp_table_New c25 _ key _ (hS.get 0 O)) ?_
   rintro _ _ w ⟨t26, rfl, rfl⟩ hS
   refine lx (hS.sl 5 16) fun jj =>?_
   refine dl 8 O (by kernel_rfl)<|cs cf28 hS O O O O O (sp_counter_New nx _) ?_
   rintro _ _ w ⟨b28, rfl, rfl⟩ hS
   refine lx (hS.sl 6 32) fun jj =>?_
   refine dl 9 O (by kernel_rfl)<|cs cf29 hS O O O O O (sp_filter_New _) ?_
   rintro _ _ w ⟨b29, rfl, rfl⟩ hS
   refine lx (hS.sl 7 64) fun jj =>?_
   refine dl 10 O (by kernel_rfl)<|cs cf30 hS O O O O O (sp_echo_New _) ?_
   rintro _ _ w ⟨b30, rfl, rfl⟩ hS
   refine lx (hS.sl 8 128) fun jj =>dx 13 O (by kernel_rfl) (fun w hS =>bd (cs := #[Ptr b22 0, I ((d : Int)), Ptr t26 0, Ptr b28 0, Ptr b29 0, Ptr b30 0, U16 (0), I (0), U32 (0), U64 (mnU nx 9223372036854775807), .bool (false)]) O O O (by kernel_rfl) rr) jj ?_
   refine dl 14 O (by kernel_rfl)<|bxa hS O O O fun b34 w hb34 hS =>lx (hS.sl 9 256) fun jj =>?_
   refine dl 15 O (by kernel_rfl)<|asg O O O<|ly O ?_
   refine dl 16 O (by kernel_rfl)<|asg O O O<|ly O<|de (by kernel_rfl)<|wt<|wc_ret<|fin2 (v := Ptr b34 0) (u := .nilIface) O O O ?_
   have e : decide (d = 0) = true := by rw [decide_eq_true (by omega)]
   have hS2 : St w0 [] ([(b34, .cells (#[Ptr b22 0, I ((d : Int)), Ptr t26 0, Ptr b28 0, Ptr b29 0, Ptr b30 0, U16 (0), I (0), U32 (0), U64 (mnU nx 9223372036854775807), .bool (false)]) 90), (b29, .cells (#[I (0), I (0), U64 (0)]) 155), (b28, .cells (#[U64 (mnU nx 9223372036854775807), U64 (0), .bool (false)]) 151), (t26, .cells (tableC c25 key) 139), (c25, .cells (cipherC key) 147), (b22, .cells (#[Str (adA ad), .bool (true), I (((0 : Nat) : Int)), .map (some m22)]) 135), (m22, mOb encS vI ([]))] ++ [(b30, .cells (#[(.pointer none)]) 158)]) w := St.toend (A := [(b34, .cells (#[Ptr b22 0, I ((d : Int)), Ptr t26 0, Ptr b28 0, Ptr b29 0, Ptr b30 0, U16 (0), I (0), U32 (0), U64 (mnU nx 9223372036854775807), .bool (false)]) 90), (b30, .cells (#[(.pointer none)]) 158), (b29, .cells (#[I (0), I (0), U64 (0)]) 155), (b28, .cells (#[U64 (mnU nx 9223372036854775807), U64 (0), .bool (false)]) 151), (t26, .cells (tableC c25 key) 139), (c25, .cells (cipherC key) 147), (b22, .cells (#[Str (adA ad), .bool (true), I (((0 : Nat) : Int)), .map (some m22)]) 135), (m22, mOb encS vI ([]))]) (R := []) ((hS.sublist (List.sublist_append_left [(b34, .cells (#[Ptr b22 0, I ((d : Int)), Ptr t26 0, Ptr b28 0, Ptr b29 0, Ptr b30 0, U16 (0), I (0), U32 (0), U64 (mnU nx 9223372036854775807), .bool (false)]) 90), (b30, .cells (#[(.pointer none)]) 158), (b29, .cells (#[I (0), I (0), U64 (0)]) 155), (b28, .cells (#[U64 (mnU nx 9223372036854775807), U64 (0), .bool (false)]) 151), (t26, .cells (tableC c25 key) 139), (c25, .cells (cipherC key) 147), (b22, .cells (#[Str (adA ad), .bool (true), I (((0 : Nat) : Int)), .map (some m22)]) 135), (m22, mOb encS vI ([]))] [_])).napp) 1 rfl
   exact ⟨_, _, rfl, ⟨_, rfl, b22, m22, b28, b29, b30, t26, c25, _, _, _, _, _, _, _, _, hd, ⟨_, .inl ⟨rfl, rfl⟩⟩, by rw [show (sesN key d ad nx).fx = true from e]; rfl⟩, hS2⟩
  ·try simp only [SB] at hc3
   refine wc_skip<|wt<|rd mo 15 (fun w =>St w0 [] [(b4, .cells (BV key) 22)] w)<|have hS := hS.drew; jx (hS.sl 1 1) fun jj =>dx 0 O (by kernel_rfl) (fun w hS =>mv O O O rr) jj<|dx 1 O (by kernel_rfl) (fun w hS =>mv O O O rr) jj<|dx 3 O (by kernel_rfl) (fun w hS =>mv O O O rr) jj<|dx 4 O (by kernel_rfl) (fun w hS =>la 0 ag22 hS O O O O (BV_size _) rr) jj<|dx 7 O (by kernel_rfl) (fun w hS =>mv O O O rr) jj<|dx 11 O (by kernel_rfl) (fun w hS =>mv O O O rr) jj<|dx 12 O (by kernel_rfl) (fun w hS =>minu (q := (9223372036854775807 : UInt64)) O O O O rr) jj ?_
   refine dl 2 O (by kernel_rfl)<|cs cf24 hS O O O O O (sp_peer_New ad _) ?_
   rintro _ _ w ⟨b22, m22, rfl, rfl⟩ hS
   refine lx (hS.sl 3 4) fun jj =>?_
   refine dl 5 O (by kernel_rfl)<|cs cf27 hS O O O O O (sp_fast_New key _) ?_
   rintro _ _ w ⟨c25, rfl, rfl⟩ hS
   refine lx (hS.sl 4 8) fun jj =>?_
   refine dl 6 O (by kernel_rfl)<|cs cf26 hS O O O O O (sp_table_New c25 _ key _ (hS.get 0 O)) ?_
   rintro _ _ w ⟨t26, rfl, rfl⟩ hS
   refine lx (hS.sl 5 16) fun jj =>?_
   refine dl 8 O (by kernel_rfl)<|cs cf28 hS O O O O O (sp_counter_New nx _) ?_
   rintro _ _ w ⟨b28, rfl, rfl⟩ hS
   refine lx (hS.sl 6 32) fun jj =>?_
   refine dl 9 O (by kernel_rfl)<|cs cf29 hS O O O O O (sp_filter_New _) ?_
   rintro _ _ w ⟨b29, rfl, rfl⟩ hS
   refine lx (hS.sl 7 64) fun jj =>?_
   refine dl 10 O (by kernel_rfl)<|cs cf30 hS O O O O O (sp_echo_New _) ?_
   rintro _ _ w ⟨b30, rfl, rfl⟩ hS
   refine lx (hS.sl 8 128) fun jj =>dx 13 O (by kernel_rfl) (fun w hS =>bd (cs := #[Ptr b22 0, I ((d : Int)), Ptr t26 0, Ptr b28 0, Ptr b29 0, Ptr b30 0, U16 (0), I (0), U32 (0), U64 (mnU nx 9223372036854775807), .bool (false)]) O O O (by kernel_rfl) rr) jj ?_
   refine dl 14 O (by kernel_rfl)<|bxa hS O O O fun b34 w hb34 hS =>lx (hS.sl 9 256) fun jj =>?_
   refine dl 15 O (by kernel_rfl)<|asg O O O<|ly O ?_
   refine dl 16 O (by kernel_rfl)<|asg O O O<|ly O<|de (by kernel_rfl)<|wt<|wc_ret<|fin2 (v := Ptr b34 0) (u := .nilIface) O O O ?_
   have e : decide (d = 0) = false := by rw [decide_eq_false (by omega)]
   have hS2 : St w0 [] ([(b34, .cells (#[Ptr b22 0, I ((d : Int)), Ptr t26 0, Ptr b28 0, Ptr b29 0, Ptr b30 0, U16 (0), I (0), U32 (0), U64 (mnU nx 9223372036854775807), .bool (false)]) 90), (b29, .cells (#[I (0), I (0), U64 (0)]) 155), (b28, .cells (#[U64 (mnU nx 9223372036854775807), U64 (0), .bool (false)]) 151), (t26, .cells (tableC c25 key) 139), (c25, .cells (cipherC key) 147), (b22, .cells (#[Str (adA ad), .bool (false), I (((0 : Nat) : Int)), .map (some m22)]) 135), (m22, mOb encS vI ([]))] ++ [(b30, .cells (#[(.pointer none)]) 158)]) w := St.toend (A := [(b34, .cells (#[Ptr b22 0, I ((d : Int)), Ptr t26 0, Ptr b28 0, Ptr b29 0, Ptr b30 0, U16 (0), I (0), U32 (0), U64 (mnU nx 9223372036854775807), .bool (false)]) 90), (b30, .cells (#[(.pointer none)]) 158), (b29, .cells (#[I (0), I (0), U64 (0)]) 155), (b28, .cells (#[U64 (mnU nx 9223372036854775807), U64 (0), .bool (false)]) 151), (t26, .cells (tableC c25 key) 139), (c25, .cells (cipherC key) 147), (b22, .cells (#[Str (adA ad), .bool (false), I (((0 : Nat) : Int)), .map (some m22)]) 135), (m22, mOb encS vI ([]))]) (R := []) ((hS.sublist (List.sublist_append_left [(b34, .cells (#[Ptr b22 0, I ((d : Int)), Ptr t26 0, Ptr b28 0, Ptr b29 0, Ptr b30 0, U16 (0), I (0), U32 (0), U64 (mnU nx 9223372036854775807), .bool (false)]) 90), (b30, .cells (#[(.pointer none)]) 158), (b29, .cells (#[I (0), I (0), U64 (0)]) 155), (b28, .cells (#[U64 (mnU nx 9223372036854775807), U64 (0), .bool (false)]) 151), (t26, .cells (tableC c25 key) 139), (c25, .cells (cipherC key) 147), (b22, .cells (#[Str (adA ad), .bool (false), I (((0 : Nat) : Int)), .map (some m22)]) 135), (m22, mOb encS vI ([]))] [_])).napp) 1 rfl
   exact ⟨_, _, rfl, ⟨_, rfl, b22, m22, b28, b29, b30, t26, c25, _, _, _, _, _, _, _, _, hd, ⟨_, .inl ⟨rfl, rfl⟩⟩, by rw [show (sesN key d ad nx).fx = false from e]; rfl⟩, hS2⟩
theorem sp_echo_Rtt_Last (s E : Nat) (v0 v1 v2 v3 v4 v5 v9 v10 : Value) (rl : UInt16) (rc : Nat) (re : UInt32) (w0 : World) (hs : w0.heap[s]? = some (.cells (#[v0, v1, v2, v3, v4, v5, U16 rl, I (rc : Int), U32 re, v9, v10]) E)) : Calls Tryz.prog 46 #[Ptr s 6] w0 (Ret w0 (.tuple #[U16 rl, .bool (decide ((rc : Int) > 0))])) := by
 refine enter (args := [Ptr s 6]) Tryz.func46 O O<|startw fun w hS =>rg<|asg O O O<|asg O O O<|wt<|wc_seq<|rg<|mv O O O<|eqpn un175 O O O O<|wt<|wc_if_f O ?_
 refine wc_skip<|wt<|rd mo 10 (fun w =>St w0 [] [] w)<|have hS := hS.drew; jx hS fun jj =>dx 0 O (by kernel_rfl) (fun w hS =>mv O O O rr) jj<|dx 1 O (by kernel_rfl) (fun w hS =>nilp O O O rr) jj<|dx 2 O (by kernel_rfl) (fun w hS =>fan 0 6 un88 O sz36 (by decide) O O O O (by omega) rr) jj<|dx 3 O (by kernel_rfl) (fun w hS =>lod hs List.not_mem_nil sc36 hS O O O O rr) jj<|dx 4 O (by kernel_rfl) (fun w hS =>mv O O O rr) jj<|dx 5 O (by kernel_rfl) (fun w hS =>nilp O O O rr) jj<|dx 6 O (by kernel_rfl) (fun w hS =>fan 1 7 un88 O sz3 (by decide) O O O O (by omega) rr) jj<|dx 7 O (by kernel_rfl) (fun w hS =>lod hs List.not_mem_nil sc3 hS O O O O rr) jj ?_
 refine dx 8 O (by kernel_rfl) (fun w hS =>gtr O O O O rr) jj<|dx 9 O (by kernel_rfl) (fun w hS =>asg O O O rr) jj ?_
 refine dl 10 O (by kernel_rfl)<|asg O O O<|ly O<|de (by kernel_rfl)<|wt<|wc_ret<|fin2 (v := U16 rl) (u := .bool (decide ((rc : Int) > 0))) O O O ?_
 exact ⟨rfl, hS.drop⟩
theorem sp_echo_Rtt_Count (s E : Nat) (v0 v1 v2 v3 v4 v5 v9 v10 : Value) (rl : UInt16) (rc : Nat) (re : UInt32) (w0 : World) (hs : w0.heap[s]? = some (.cells (#[v0, v1, v2, v3, v4, v5, U16 rl, I (rc : Int), U32 re, v9, v10]) E)) : Calls Tryz.prog 43 #[Ptr s 6] w0 (Ret w0 (I (rc : Int))) := by
 refine enter (args := [Ptr s 6]) Tryz.func43 O O<|startw fun w hS =>rg<|asg O O O<|wt<|wc_seq<|rg<|mv O O O<|eqpn un175 O O O O<|wt<|wc_if_f O<|wc_skip ?_
 refine wt<|rg<|mv O O O<|nilp O O O<|fan 1 7 un88 O sz3 (by decide) O O O O (by omega)<|lod hs List.not_mem_nil sc3 hS O O O O<|asg O O O<|wt<|wc_ret<|fin1 (v := I ((rc : Int))) O O ?_
 exact ⟨rfl, hS.drop⟩
theorem sp_counter_Counter_Given (pc E : Nat) (nx gvn : UInt64) (cl : Bool) (w0 : World) (hpc : w0.heap[pc]? = some (.cells (#[U64 nx, U64 gvn, .bool cl]) E)) : Calls Tryz.prog 41 #[Ptr pc 0] w0 (Ret w0 (U64 gvn)) := by
 refine enter (args := [Ptr pc 0]) Tryz.func41 O O<|startw fun w hS =>rg<|asg O O O<|wt<|wc_seq<|rg<|mv O O O<|eqpn un81 O O O O<|wt<|wc_if_f O<|wc_skip ?_
 refine wt<|rg<|mv O O O<|nilp O O O<|fan 1 1 un151 O sz24 (by decide) O O O O (by omega)<|lod hpc List.not_mem_nil sc24 hS O O O O<|asg O O O<|wt<|wc_ret<|fin1 (v := U64 gvn) O O ?_
 exact ⟨rfl, hS.drop⟩
theorem sp_filter_Filter_Last (pf E ac rf : Nat) (ls : UInt64) (w0 : World) (hpf : w0.heap[pf]? = some (.cells (#[I (ac : Int), I (rf : Int), U64 ls]) E)) : Calls Tryz.prog 44 #[Ptr pf 0] w0 (Ret w0 (.tuple #[U64 (lstV ls), .bool (decide (ls ≠ 0))])) := by
 refine enter (args := [Ptr pf 0]) Tryz.func44 O O<|startw fun w hS =>rg<|asg O O O<|asg O O O<|wt<|wc_seq<|rg<|mv O O O<|eqpn un83 O O O O<|mv O O O<|mv O O O ?_
 refine nilp O O O<|fan 2 2 un155 O sz24 (by decide) O O O O (by omega)<|lod hpf List.not_mem_nil sc24 hS O O O O<|eqi O O O O<|pk_f O O O O<|wt ?_
 refine wc_if O (fun hc1 =>?_) (fun hc1 =>?_)
 ·try simp only [SB] at hc1
  refine rg<|asg O O O<|asg O O O<|wt<|wc_ret<|q_then_ret<|fin2 (v := U64 0) (u := .bool false) O O O ?_
  refine ⟨?_, hS.drop⟩
  first | (have hz : ls = 0 := UInt64.toNat_inj.1 (by simp; omega); simp [lstV, hz]; done) | (have hz : ¬ ls = 0 := (fun e => by subst e; simp at hc1); simp [lstV, hz])
 ·try simp only [SB] at hc1
  refine wc_skip<|wt<|rg<|mv O O O<|nilp O O O<|fan 2 2 un155 O sz24 (by decide) O O O O (by omega)<|lod hpf List.not_mem_nil sc24 hS O O O O<|sub64 (q := (1 : UInt64)) O O O O<|asg O O O<|asg O O O<|wt<|wc_ret ?_
  refine fin2 (v := U64 (ls - 1)) (u := .bool true) O O O ?_
  refine ⟨?_, hS.drop⟩
  first | (have hz : ls = 0 := UInt64.toNat_inj.1 (by simp; omega); simp [lstV, hz]; done) | (have hz : ¬ ls = 0 := (fun e => by subst e; simp at hc1); simp [lstV, hz])
theorem sp_filter_Filter_Counts (pf E ac rf : Nat) (ls : UInt64) (w0 : World) (hpf : w0.heap[pf]? = some (.cells (#[I (ac : Int), I (rf : Int), U64 ls]) E)) : Calls Tryz.prog 45 #[Ptr pf 0] w0 (Ret w0 (.tuple #[I (ac : Int), I (rf : Int)])) := by
 refine enter (args := [Ptr pf 0]) Tryz.func45 O O<|startw fun w hS =>rg<|asg O O O<|asg O O O<|wt<|wc_seq<|rg<|mv O O O<|eqpn un83 O O O O<|wt<|wc_if_f O ?_
 refine wc_skip<|wt<|rd mo 11 (fun w =>St w0 [] [] w)<|have hS := hS.drew; jx hS fun jj =>dx 0 O (by kernel_rfl) (fun w hS =>mv O O O rr) jj<|dx 1 O (by kernel_rfl) (fun w hS =>nilp O O O rr) jj<|dx 2 O (by kernel_rfl) (fun w hS =>fan 0 0 un155 O sz153 (by decide) O O O O (by omega) rr) jj<|dx 3 O (by kernel_rfl) (fun w hS =>fan 0 0 un153 O sz3 (by decide) O O O O (by omega) rr) jj<|dx 4 O (by kernel_rfl) (fun w hS =>lod hpf List.not_mem_nil sc3 hS O O O O rr) jj<|dx 5 O (by kernel_rfl) (fun w hS =>mv O O O rr) jj<|dx 6 O (by kernel_rfl) (fun w hS =>nilp O O O rr) jj<|dx 7 O (by kernel_rfl) (fun w hS =>fan 0 0 un155 O sz153 (by decide) O O O O (by omega) rr) jj ?_
 refine dx 8 O (by kernel_rfl) (fun w hS =>fan 1 1 un153 O sz3 (by decide) O O O O (by omega) rr) jj<|dx 9 O (by kernel_rfl) (fun w hS =>lod hpf List.not_mem_nil sc3 hS O O O O rr) jj<|dx 10 O (by kernel_rfl) (fun w hS =>asg O O O rr) jj ?_
 refine dl 11 O (by kernel_rfl)<|asg O O O<|ly O<|de (by kernel_rfl)<|wt<|wc_ret<|fin2 (v := I ((ac : Int))) (u := I ((rf : Int))) O O O ?_
 exact ⟨rfl, hS.drop⟩
theorem sp_peer_Peer_Address (pp E pm : Nat) (ad : List UInt8) (fx : Bool) (mvs : Nat) (w0 : World) (hpp : w0.heap[pp]? = some (.cells (#[Str ad, .bool fx, I ((mvs : Nat) : Int), .map (some pm)]) E)) : Calls Tryz.prog 31 #[Ptr pp 0] w0 (Ret w0 (.tuple #[Str ad, .bool (decide (ad ≠ []))])) := by
 refine enter (args := [Ptr pp 0]) Tryz.func31 O O<|startw fun w hS =>rg<|asg O O O<|asg O O O<|wt<|wc_seq<|rg<|mv O O O<|eqpn un76 O O O O<|wt<|wc_if_f O ?_
 refine wc_skip<|wt<|rd mo 10 (fun w =>St w0 [] [] w)<|have hS := hS.drew; jx hS fun jj =>dx 0 O (by kernel_rfl) (fun w hS =>mv O O O rr) jj<|dx 1 O (by kernel_rfl) (fun w hS =>nilp O O O rr) jj<|dx 2 O (by kernel_rfl) (fun w hS =>fan 0 0 un135 O sz9 (by decide) O O O O (by omega) rr) jj<|dx 3 O (by kernel_rfl) (fun w hS =>lod hpp List.not_mem_nil sc9 hS O O O O rr) jj<|dx 4 O (by kernel_rfl) (fun w hS =>mv O O O rr) jj<|dx 5 O (by kernel_rfl) (fun w hS =>nilp O O O rr) jj<|dx 6 O (by kernel_rfl) (fun w hS =>fan 0 0 un135 O sz9 (by decide) O O O O (by omega) rr) jj<|dx 7 O (by kernel_rfl) (fun w hS =>lod hpp List.not_mem_nil sc9 hS O O O O rr) jj ?_
 refine dx 8 O (by kernel_rfl) (fun w hS =>nes O O O O rr) jj<|dx 9 O (by kernel_rfl) (fun w hS =>asg O O O rr) jj ?_
 refine dl 10 O (by kernel_rfl)<|asg O O O<|ly O<|de (by kernel_rfl)<|wt<|wc_ret<|fin2 (v := Str ad) (u := .bool (decide (ad ≠ ([] : List UInt8)))) O O O ?_
 exact ⟨rfl, hS.drop⟩
theorem sp_peer_Peer_Moves (pp E pm : Nat) (ad : List UInt8) (fx : Bool) (mvs : Nat) (w0 : World) (hpp : w0.heap[pp]? = some (.cells (#[Str ad, .bool fx, I ((mvs : Nat) : Int), .map (some pm)]) E)) : Calls Tryz.prog 42 #[Ptr pp 0] w0 (Ret w0 (I ((mvs : Nat) : Int))) := by
 refine enter (args := [Ptr pp 0]) Tryz.func42 O O<|startw fun w hS =>rg<|asg O O O<|wt<|wc_seq<|rg<|mv O O O<|eqpn un76 O O O O<|wt<|wc_if_f O<|wc_skip ?_
 refine wt<|rg<|mv O O O<|nilp O O O<|fan 2 2 un135 O sz3 (by decide) O O O O (by omega)<|lod hpp List.not_mem_nil sc3 hS O O O O<|asg O O O<|wt<|wc_ret<|fin1 (v := I (((mvs : Nat) : Int))) O O ?_
 exact ⟨rfl, hS.drop⟩
end Go.Proofs.XS
namespace Go.X
open Go
section
variable {P : Program} {ops : Array Oper} {n : Nat} {Q : XPost} {l : Regs} {w w0 : World} {F : List Nat} {A B R : List (Nat × Obj)}
def MM (n : Nat) (inv : Regs → World → Prop) (a : Act) (w : World) : Prop := ∃ l, Is n l a ∧ inv l w
theorem sqj {x y : Code} (inv : Regs → World → Prop) (h : WC P n (Exit.then (MM n inv) Q) x l w) (k : ∀ l w, inv l w → WC P n Q y l w) : WC P n Q (.seq x y) l w :=
  wc_seq fun a ha => Code.wp_mono (fun e a w he => by
    cases e with
    | normal => obtain ⟨s, h1, h2⟩ := he; exact k s w h2 a h1
    | _ => exact he) (h a ha)
theorem mmq {inv : Regs → World → Prop} {l' : Regs} (hi : inv l' w) (h0 : Sub l' l) (hd : dfs l' = dfs l := by rfl) : WQ n (Exit.then (MM n inv) Q) .normal l w :=
  fun _ ha => ⟨l', ha.sub h0 hd, hi⟩
theorem St.prm (h : St w0 F (A ++ R) w) (is : List Nat) (hn : is.Nodup) (hi : is.map (fun i => A[i]?) = B.map some) : St w0 F (B ++ R) w := by
  have hm : ∀ p ∈ B, p ∈ A := by
    intro p hp
    have : some p ∈ is.map (fun i => A[i]?) := by rw [hi]; exact List.mem_map.2 ⟨p, hp, rfl⟩
    obtain ⟨i, _, hi'⟩ := List.mem_map.1 this
    exact List.mem_of_getElem? hi'
  have hnd := h.nodup
  rw [List.map_append, List.nodup_append] at hnd
  obtain ⟨hA, hR, hd⟩ := hnd
  have key : ∀ (is : List Nat) (B : List (Nat × Obj)), is.Nodup → is.map (fun i => A[i]?) = B.map some → (B.map Prod.fst).Nodup := by
    intro is
    induction is with
    | nil => intro B _ hi; cases B with | nil => exact List.nodup_nil | cons => simp at hi
    | cons i is ih =>
      intro B hn hi
      cases B with
      | nil => simp at hi
      | cons p B =>
        simp only [List.map_cons, List.cons.injEq] at hi
        rw [List.nodup_cons] at hn
        rw [List.map_cons, List.nodup_cons]
        refine ⟨fun hp => hn.1 ?_, ih B hn.2 hi.2⟩
        obtain ⟨q, hq, e⟩ := List.mem_map.1 hp
        have : some q ∈ is.map (fun i => A[i]?) := by rw [hi.2]; exact List.mem_map.2 ⟨q, hq, rfl⟩
        obtain ⟨j, hj, e2⟩ := List.mem_map.1 this
        have k1 : (A.map Prod.fst)[i]? = some p.1 := by rw [List.getElem?_map, hi.1]; rfl
        have k2 : (A.map Prod.fst)[j]? = some p.1 := by rw [List.getElem?_map, e2]; simp [e]
        have : i = j := (List.getElem?_inj (List.getElem?_eq_some_iff.1 k1).1 hA).1 (k1.trans k2.symm)
        subst this; exact hj
  refine h.of (fun p hp => ?_) ?_
  · rcases List.mem_append.1 hp with hp | hp
    · exact List.mem_append.2 (.inl (hm p hp))
    · exact List.mem_append.2 (.inr hp)
  · rw [List.map_append]
    refine List.nodup_append.2 ⟨key is B hn hi, hR, fun a ha b hb => ?_⟩
    obtain ⟨p, hp, rfl⟩ := List.mem_map.1 ha
    exact hd p.1 (List.mem_map.2 ⟨p, hm p hp, rfl⟩) b hb
end
end Go.X
namespace Go.X
theorem St.nap {w w0 : World} {F : List Nat} {B : List (Nat × Obj)} (h : St w0 F (B ++ []) w) : St w0 F B w := by simpa using h
end Go.X
namespace Go.Proofs.XS
open Go Go.X Go.Proofs
theorem sp_session_Session_Status (s : Nat) (m : SS) (X : List (Nat × Obj)) (w0 : World) (hO : SesO s m X) (hX : ∀ p ∈ X, w0.heap[p.1]? = some p.2) : Calls Tryz.prog 12 #[Ptr s 0] w0 (Ret w0 (.agg (statC m))) := by
 refine enter (args := [Ptr s 0]) Tryz.func12 O O ?_
 obtain ⟨pp, pm, pc, pf, pe, t, c, E1, E2, E3, E4, E5, E6, mm, Z, hd1, hE, hXe⟩ := hO
 subst hXe
 have hs : w0.heap[s]? = some (.cells (#[Ptr pp 0, I (((m.dir : Nat) : Int)), Ptr t 0, Ptr pc 0, Ptr pf 0, Ptr pe 0, U16 (m.rl), I (((m.rc : Nat) : Int)), U32 (m.re), U64 (m.fs), .bool (m.cz)]) E1) := hX (s, _) (by simp)
 have hpf : w0.heap[pf]? = some (.cells (#[I (((m.ac : Nat) : Int)), I (((m.rf : Nat) : Int)), U64 (m.ls)]) E2) := hX (pf, _) (by simp)
 have hpc : w0.heap[pc]? = some (.cells (#[U64 (m.nx), U64 (m.gv), .bool (false)]) E3) := hX (pc, _) (by simp)
 have hpp : w0.heap[pp]? = some (.cells (#[Str m.ad, .bool (m.fx), I (((m.mv : Nat) : Int)), .map (some pm)]) E6) := hX (pp, _) (by simp)
 refine startw fun w hS =>rg<|ala zr38 hS O O fun b2 w hb2 hS =>wt<|wc_seq<|rg<|mv O O O<|eqpn un25 O O O O<|wt<|wc_if_f O<|wc_skip<|wt ?_
 refine sqj (fun l w =>∃ (b3 : Nat), l = [(0, Ptr s 0), (2, Ptr b2 0), (3, Ptr b3 0)] ∧ St w0 [] [(b3, .cells (#[U64 (m.fs + m.gv), U64 (0), .bool (false), I (0), I (0), Str ([]), I ((m.mv : Nat) : Int), I ((m.rc : Nat) : Int), U16 (0), .bool (m.cz)]) 38), (b2, .cells (#[U64 (0), U64 (0), .bool (false), I (0), I (0), Str ([]), I (0), I (0), U16 (0), .bool (false)]) 38)] w) ?_ ?_
 ·refine wc_draw mo 25 (fun w =>St w0 [] [] w)<|have hS := hS.drew; jx (hS.sl 0 0) fun jj =>dx 0 O (by kernel_rfl) (fun w hS =>mv O O O rr) jj<|dx 1 O (by kernel_rfl) (fun w hS =>nilp O O O rr) jj<|dx 2 O (by kernel_rfl) (fun w hS =>fan 9 9 un90 O sz24 (by decide) O O O O (by omega) rr) jj<|dx 3 O (by kernel_rfl) (fun w hS =>lod hs List.not_mem_nil sc24 hS O O O O rr) jj<|dx 4 O (by kernel_rfl) (fun w hS =>mv O O O rr) jj<|dx 5 O (by kernel_rfl) (fun w hS =>nilp O O O rr) jj<|dx 6 O (by kernel_rfl) (fun w hS =>fan 3 3 un90 O sz81 (by decide) O O O O (by omega) rr) jj<|dx 7 O (by kernel_rfl) (fun w hS =>lod hs List.not_mem_nil sc81 hS O O O O rr) jj<|dx 10 O (by kernel_rfl) (fun w hS =>mv O O O rr) jj<|dx 11 O (by kernel_rfl) (fun w hS =>nilp O O O rr) jj ?_
  refine dx 12 O (by kernel_rfl) (fun w hS =>fan 0 0 un90 O sz76 (by decide) O O O O (by omega) rr) jj<|dx 13 O (by kernel_rfl) (fun w hS =>lod hs List.not_mem_nil sc76 hS O O O O rr) jj<|dx 15 O (by kernel_rfl) (fun w hS =>mv O O O rr) jj<|dx 16 O (by kernel_rfl) (fun w hS =>nilp O O O rr) jj<|dx 17 O (by kernel_rfl) (fun w hS =>fan 6 6 un90 O sz88 (by decide) O O O O (by omega) rr) jj<|dx 19 O (by kernel_rfl) (fun w hS =>mv O O O rr) jj<|dx 20 O (by kernel_rfl) (fun w hS =>nilp O O O rr) jj<|dx 21 O (by kernel_rfl) (fun w hS =>fan 10 10 un90 O sz4 (by decide) O O O O (by omega) rr) jj<|dx 22 O (by kernel_rfl) (fun w hS =>lod hs List.not_mem_nil sc4 hS O O O O rr) jj ?_
  refine dl2 8 24 O O (by kernel_rfl) ?_ ?_
  ·refine cv cf41 hS O O O O O (sp_counter_Counter_Given pc _ m.nx m.gv false _ (hS.old hpc List.not_mem_nil)) fun w hS =>lx (hS.sl 0 0) fun jj =>dx 9 O (by kernel_rfl) (fun w hS =>add64 O O O O rr) jj ?_
   refine dl2 14 24 O O (by kernel_rfl) ?_ ?_
   ·refine cv cf42 hS O O O O O (sp_peer_Peer_Moves pp _ _ m.ad m.fx m.mv _ (hS.old hpp List.not_mem_nil)) fun w hS =>lx (hS.sl 0 0) fun jj =>?_
    refine dl2 18 24 O O (by kernel_rfl) ?_ ?_
    ·refine cv cf43 hS O O O O O (sp_echo_Rtt_Count s _ _ _ _ _ _ _ _ _ m.rl m.rc m.re _ (hS.old hs List.not_mem_nil)) fun w hS =>lx (hS.sl 0 0) fun jj =>dx 23 O (by kernel_rfl) (fun w hS =>bd (cs := #[U64 (m.fs + m.gv), U64 (0), .bool (false), I (0), I (0), Str ([]), I ((m.mv : Nat) : Int), I ((m.rc : Nat) : Int), U16 (0), .bool (m.cz)]) O O O (by kernel_rfl) rr) jj ?_
     refine dl 24 O (by kernel_rfl)<|ala zr38 hS O O fun b3 w hb3 hS =>lx (hS.sl 0 0) fun jj =>?_
     refine dl 25 O (by kernel_rfl)<|sa 0 ag38 hS O O O (by kernel_rfl) O O O fun w hS =>ly O<|de (by kernel_rfl) ?_
     exact mmq ⟨b3, rfl, hS⟩ ⟨rfl, rfl, rfl, trivial⟩
    ·refine ala zr38 hS O O fun b3 w hb3 hS =>lx (hS.sl 0 0) fun jj =>?_
     refine dl 18 O (by kernel_rfl)<|cv cf43 hS O O O O O (sp_echo_Rtt_Count s _ _ _ _ _ _ _ _ _ m.rl m.rc m.re _ (hS.old hs List.not_mem_nil)) fun w hS =>lx (hS.sl 0 0) fun jj =>dx 23 O (by kernel_rfl) (fun w hS =>bd (cs := #[U64 (m.fs + m.gv), U64 (0), .bool (false), I (0), I (0), Str ([]), I ((m.mv : Nat) : Int), I ((m.rc : Nat) : Int), U16 (0), .bool (m.cz)]) O O O (by kernel_rfl) rr) jj ?_
     refine dl 25 O (by kernel_rfl)<|sa 0 ag38 hS O O O (by kernel_rfl) O O O fun w hS =>ly O<|de (by kernel_rfl) ?_
     exact mmq ⟨b3, rfl, hS⟩ ⟨rfl, rfl, rfl, trivial⟩
   ·refine ala zr38 hS O O fun b3 w hb3 hS =>lx (hS.sl 0 0) fun jj =>?_
    refine dl 14 O (by kernel_rfl)<|cv cf42 hS O O O O O (sp_peer_Peer_Moves pp _ _ m.ad m.fx m.mv _ (hS.old hpp List.not_mem_nil)) fun w hS =>lx (hS.sl 0 0) fun jj =>?_
    refine dl 18 O (by kernel_rfl)<|cv cf43 hS O O O O O (sp_echo_Rtt_Count s _ _ _ _ _ _ _ _ _ m.rl m.rc m.re _ (hS.old hs List.not_mem_nil)) fun w hS =>lx (hS.sl 0 0) fun jj =>dx 23 O (by kernel_rfl) (fun w hS =>bd (cs := #[U64 (m.fs + m.gv), U64 (0), .bool (false), I (0), I (0), Str ([]), I ((m.mv : Nat) : Int), I ((m.rc : Nat) : Int), U16 (0), .bool (m.cz)]) O O O (by kernel_rfl) rr) jj ?_
    refine dl 25 O (by kernel_rfl)<|sa 0 ag38 hS O O O (by kernel_rfl) O O O fun w hS =>ly O<|de (by kernel_rfl) ?_
    exact mmq ⟨b3, rfl, hS⟩ ⟨rfl, rfl, rfl, trivial⟩
  ·refine ala zr38 hS O O fun b3 w hb3 hS =>lx (hS.sl 0 0) fun jj =>?_
   refine dl 8 O (by kernel_rfl)<|cv cf41 hS O O O O O (sp_counter_Counter_Given pc _ m.nx m.gv false _ (hS.old hpc List.not_mem_nil)) fun w hS =>lx (hS.sl 0 0) fun jj =>dx 9 O (by kernel_rfl) (fun w hS =>add64 O O O O rr) jj ?_
   refine dl 14 O (by kernel_rfl)<|cv cf42 hS O O O O O (sp_peer_Peer_Moves pp _ _ m.ad m.fx m.mv _ (hS.old hpp List.not_mem_nil)) fun w hS =>lx (hS.sl 0 0) fun jj =>?_
   refine dl 18 O (by kernel_rfl)<|cv cf43 hS O O O O O (sp_echo_Rtt_Count s _ _ _ _ _ _ _ _ _ m.rl m.rc m.re _ (hS.old hs List.not_mem_nil)) fun w hS =>lx (hS.sl 0 0) fun jj =>dx 23 O (by kernel_rfl) (fun w hS =>bd (cs := #[U64 (m.fs + m.gv), U64 (0), .bool (false), I (0), I (0), Str ([]), I ((m.mv : Nat) : Int), I ((m.rc : Nat) : Int), U16 (0), .bool (m.cz)]) O O O (by kernel_rfl) rr) jj ?_
   refine dl 25 O (by kernel_rfl)<|sa 0 ag38 hS O O O (by kernel_rfl) O O O fun w hS =>ly O<|de (by kernel_rfl) ?_
   exact mmq ⟨b3, rfl, hS⟩ ⟨rfl, rfl, rfl, trivial⟩
 ·rintro _ w ⟨b3, rfl, hS⟩
  refine rg<|mv O O O<|nilp O O O<|fan 4 4 un90 O sz83 (by decide) O O O O (by omega)<|lod hs List.not_mem_nil sc83 hS O O O O<|cv cf44 hS O O O O O (sp_filter_Filter_Last pf _ m.ac m.rf m.ls _ (hS.old hpf List.not_mem_nil)) fun w hS =>mv O O O<|ext O O O O<|ext O O O O<|fan 1 1 un38 O sz24 (by decide) O O O O (by omega)<|st 0 sz24 hS O O O O O O (by show (1 : Nat) < 10; decide) O fun w hS =>fan 2 2 un38 O sz4 (by decide) O O O O (by omega) ?_
  refine st 0 sz4 hS O O O O O O (by show (2 : Nat) < 10; decide) O fun w hS =>wt<|rg<|mv O O O<|nilp O O O<|fan 4 4 un90 O sz83 (by decide) O O O O (by omega)<|lod hs List.not_mem_nil sc83 hS O O O O<|cv cf45 hS O O O O O (sp_filter_Filter_Counts pf _ m.ac m.rf m.ls _ (hS.old hpf List.not_mem_nil)) fun w hS =>mv O O O<|ext O O O O<|ext O O O O<|fan 3 3 un38 O sz3 (by decide) O O O O (by omega) ?_
  refine st 0 sz3 hS O O O O O O (by show (3 : Nat) < 10; decide) O fun w hS =>fan 4 4 un38 O sz3 (by decide) O O O O (by omega)<|st 0 sz3 hS O O O O O O (by show (4 : Nat) < 10; decide) O fun w hS =>wt<|rg<|mv O O O<|nilp O O O<|fan 0 0 un90 O sz76 (by decide) O O O O (by omega)<|lod hs List.not_mem_nil sc76 hS O O O O<|cv cf31 hS O O O O O (sp_peer_Peer_Address pp _ _ m.ad m.fx m.mv _ (hS.old hpp List.not_mem_nil)) fun w hS =>mv O O O<|ext O O O O ?_
  refine ext O O O O<|fan 5 5 un38 O sz9 (by decide) O O O O (by omega)<|st 0 sz9 hS O O O O O O (by show (5 : Nat) < 10; decide) O fun w hS =>wt<|rg<|mv O O O<|nilp O O O<|fan 6 6 un90 O sz88 (by decide) O O O O (by omega)<|cv cf46 hS O O O O O (sp_echo_Rtt_Last s _ _ _ _ _ _ _ _ _ m.rl m.rc m.re _ (hS.old hs List.not_mem_nil)) fun w hS =>mv O O O<|ext O O O O<|ext O O O O ?_
  refine fan 8 8 un38 O sz36 (by decide) O O O O (by omega)<|st 0 sz36 hS O O O O O O (by show (8 : Nat) < 10; decide) O fun w hS =>wt<|rg<|la 0 ag38 hS O O O O O<|sa 1 ag38 hS O O O (by kernel_rfl) O O O fun w hS =>wt<|wc_ret<|fin1 (v := .agg (#[U64 (m.fs + m.gv), U64 (lstV m.ls), .bool (decide (m.ls ≠ 0)), I ((m.ac : Nat) : Int), I ((m.rf : Nat) : Int), (Str m.ad), I ((m.mv : Nat) : Int), I ((m.rc : Nat) : Int), U16 (m.rl), .bool (m.cz)])) O ⟨_, O, lv_a ag38 (hS.get 1 O) O⟩ ?_
  exact ⟨rfl, hS.drop⟩
theorem sp_mooringref03_Mul (a b : UInt8) (w0 : World) : Calls Tryz.prog 119 #[U8 a, U8 b] w0 (Ret w0 (U8 (mulR a b))) := by
 refine enter (args := [U8 a, U8 b]) Tryz.func119 O O<|startw fun w hS =>rg<|asg O O O<|wt<|rg<|ala zr240 hS O O fun b5 w hb5 hS =>wt<|wc_seq<|rg<|asg O O O<|wt ?_
 refine wc_block ?_
 refine wc_loop (σ := Nat) (fun m =>[(0, U8 a), (1, U8 b), (4, U8 0), (5, Ptr b5 0), (6, I ((m : Int)))])
  (fun m w => (m ≤ 8) ∧ St w0 [] [(b5, .cells (NV (mOut a b m)) 240)] w) (fun m => 8 - m) 0 ⟨rfl, rfl, rfl, rfl, rfl, trivial⟩ ⟨by omega, hS⟩ ?_
 rintro m w ⟨hk, hS⟩
 refine wc_seq<|rg<|mv O O O<|lss O O O O<|wt ?_
 refine wc_if O (fun hc1 =>?_) (fun hc1 =>?_)
 ·try simp only [SB] at hc1
  refine wc_skip<|wt<|wc_seq<|wc_block<|rg<|asg O O O<|wt<|wc_block ?_
  refine wc_loop (σ := Nat) (fun k =>[(0, U8 a), (1, U8 b), (4, U8 0), (5, Ptr b5 0), (6, I ((m : Int))), (7, I ((k : Int)))])
   (fun k w => (k ≤ 8) ∧ St w0 [] [(b5, .cells (NV (mIn a b (mOut a b m) m k)) 240)] w) (fun k => 8 - k) 0 ⟨rfl, rfl, rfl, rfl, rfl, rfl, trivial⟩ ⟨by omega, hS⟩ ?_
  rintro k w ⟨hk, hS⟩
  have hb := mIn_le a b (mOut a b m) (8 * m) m (mOut_le a b m) k (m + k)
  have hm := mm (shr8 a m).toNat (shr8 b k).toNat
  have hm2 := mmN (shr8 a m).toNat (shr8 b k).toNat
  refine wc_seq<|rg<|mv O O O<|lss O O O O<|wt ?_
  refine wc_if O (fun hc2 =>?_) (fun hc2 =>?_)
  ·try simp only [SB] at hc2
   refine wc_skip<|wt<|wc_seq<|wc_block<|wc_region<|mv O O O<|mv O O O<|addi (by omega) (by omega) O O O O<|mv O O O<|mv O O O<|addi (by omega) (by omega) O O O O<|ian (m + k) ((m + k)) un240 sz3 O O O O (by omega) (by omega) (by omega) ?_
   refine lo 0 sc3 hS O O O O (NV_get _ (m + k) (by omega))<|mv O O O<|mv O O O<|cvu64 un171 ⟨_, un3⟩ O O O<|shrn8 m (toU64_un (by omega) (by omega)) O O O O<|cvi un3 ⟨_, un5⟩ (by have := (shr8 a m).toNat_lt; omega) (by have := (shr8 a m).toNat_lt; omega) O O O<|remi (by omega) (by omega) O O O O<|mv O O O<|mv O O O<|cvu64 un171 ⟨_, un3⟩ O O O<|shrn8 k (toU64_un (by omega) (by omega)) O O O O<|cvi un3 ⟨_, un5⟩ (by have := (shr8 b k).toNat_lt; omega) (by have := (shr8 b k).toNat_lt; omega) O O O ?_
   refine remi (by omega) (by omega) O O O O<|muli (by omega) (by omega) O O O O<|addi (by omega) (by omega) O O O O<|ian (m + k) ((m + k)) un240 sz3 O O O O (by omega) (by omega) (by omega)<|st 0 sz3 hS O O O O O O (by rw [NV_size]; omega) (NV_seti _ _ ((gn (mIn a b (mOut a b m) m k) (m + k)) + ((((shr8 a m).toNat) % 2) * (((shr8 b k).toNat) % 2))) (by first | rfl | omega | (simp; done) | (simp; omega))) fun w hS =>q_block_norm<|wt<|wc_region<|mv O O O<|addi (by omega) (by omega) O O O O<|asg O O O ?_
   refine again_q (k + 1) ⟨O, O, O, O, O, lkI O (by first | omega | rfl), trivial⟩ ⟨by omega, hS⟩ (by omega)
  ·try simp only [SB] at hc2
   have hk8 : k = 8 := by omega
   rw [hk8] at hS
   refine wc_exit<|q_then_exit<|q_then_exit<|q_block_hit<|q_block_norm<|wt<|wc_region<|mv O O O<|addi (by omega) (by omega) O O O O<|asg O O O ?_
   refine again_q (m + 1) ⟨O, O, O, O, lkI O (by first | omega | rfl), trivial⟩ ⟨by omega, hS⟩ (by omega)
 ·try simp only [SB] at hc1
  have hm8 : m = 8 := by omega
  rw [hm8] at hS
  refine wc_exit<|q_then_exit<|q_then_exit<|q_block_hit<|wt<|wc_seq<|rg<|asg O O O<|wt<|wc_block ?_
  refine wc_loop (σ := Nat) (fun j =>[(4, U8 0), (5, Ptr b5 0), (8, I ((14 : Int) - j))])
   (fun j w => (j ≤ 7) ∧ St w0 [] [(b5, .cells (NV (rdR (mOut a b 8) j)) 240)] w) (fun j => 7 - j) 0 ⟨rfl, rfl, rfl, trivial⟩ ⟨by omega, hS⟩ ?_
  rintro j w ⟨hk, hS⟩
  have hb := fun x => rd_le (mOut a b 8) 64 (fun j => mOut_le a b 8 j) j x
  have hb0 := hb (14 - j)
  refine wc_seq<|rg<|mv O O O<|geq O O O O<|wt ?_
  refine wc_if O (fun hc3 =>?_) (fun hc3 =>?_)
  ·try simp only [SB] at hc3
   refine wc_skip<|wt<|wc_seq<|wc_block<|rg<|mv O O O<|ian (14 - j) ((14 - j)) un240 sz3 O O O O (by omega) (by omega) (by omega)<|lo 0 sc3 hS O O O O (NV_get _ (14 - j) (by omega))<|remi (by omega) (by omega) O O O O<|eqi O O O O<|wt ?_
   refine wc_if O (fun hc4 =>?_) (fun hc4 =>?_)
   ·try simp only [SB] at hc4
    have hq : gn (rdR (mOut a b 8) j) (14 - j) % 2 = 1 := by omega
    have q1 := hb (14 - j - 4)
    have q2 := inc_le (rdR (mOut a b 8) j) (14 - j - 4) (14 - j - 5)
    have q2b := hb (14 - j - 5)
    have q3 := inc_le (rdR (mOut a b 8) j) (14 - j - 4) (14 - j - 7)
    have q3b := hb (14 - j - 7)
    have q4 := inc_le (incN (rdR (mOut a b 8) j) (14 - j - 4)) (14 - j - 5) (14 - j - 7)
    have q5 := inc_le (rdR (mOut a b 8) j) (14 - j - 4) (14 - j - 8)
    have q5b := hb (14 - j - 8)
    have q6 := inc_le (incN (rdR (mOut a b 8) j) (14 - j - 4)) (14 - j - 5) (14 - j - 8)
    have q7 := inc_le (incN (incN (rdR (mOut a b 8) j) (14 - j - 4)) (14 - j - 5)) (14 - j - 7) (14 - j - 8)
    simp only [incN] at q4 q6 q7
    refine rg<|mv O O O<|subi (by omega) (by omega) O O O O<|ian ((14 - j) - 4) (((14 - j) - 4)) un240 sz3 O O O O (by omega) (by omega) (by omega)<|lo 0 sc3 hS O O O O (NV_get _ ((14 - j) - 4) (by omega))<|addi (by omega) (by omega) O O O O<|ian ((14 - j) - 4) (((14 - j) - 4)) un240 sz3 O O O O (by omega) (by omega) (by omega)<|st 0 sz3 hS O O O O O O (by rw [NV_size]; omega) (NV_seti _ _ ((gn (rdR (mOut a b 8) j) ((14 - j) - 4)) + 1) (by first | rfl | omega | (simp; done) | (simp; omega))) fun w hS =>wt<|rg<|mv O O O<|subi (by omega) (by omega) O O O O ?_
    refine ian ((14 - j) - 5) (((14 - j) - 5)) un240 sz3 O O O O (by omega) (by omega) (by omega)<|lo 0 sc3 hS O O O O (NV_get _ ((14 - j) - 5) (by omega))<|addi (by omega) (by omega) O O O O<|ian ((14 - j) - 5) (((14 - j) - 5)) un240 sz3 O O O O (by omega) (by omega) (by omega)<|st 0 sz3 hS O O O O O O (by rw [NV_size]; omega) (NV_seti _ _ ((gn ((rdR (mOut a b 8) j).setIfInBounds ((14 - j) - 4) ((gn (rdR (mOut a b 8) j) ((14 - j) - 4)) + 1)) ((14 - j) - 5)) + 1) (by first | rfl | omega | (simp; done) | (simp; omega))) fun w hS =>wt<|rg<|mv O O O<|subi (by omega) (by omega) O O O O<|ian ((14 - j) - 7) (((14 - j) - 7)) un240 sz3 O O O O (by omega) (by omega) (by omega)<|lo 0 sc3 hS O O O O (NV_get _ ((14 - j) - 7) (by omega))<|addi (by omega) (by omega) O O O O ?_
    refine ian ((14 - j) - 7) (((14 - j) - 7)) un240 sz3 O O O O (by omega) (by omega) (by omega)<|st 0 sz3 hS O O O O O O (by rw [NV_size]; omega) (NV_seti _ _ ((gn (((rdR (mOut a b 8) j).setIfInBounds ((14 - j) - 4) ((gn (rdR (mOut a b 8) j) ((14 - j) - 4)) + 1)).setIfInBounds ((14 - j) - 5) ((gn ((rdR (mOut a b 8) j).setIfInBounds ((14 - j) - 4) ((gn (rdR (mOut a b 8) j) ((14 - j) - 4)) + 1)) ((14 - j) - 5)) + 1)) ((14 - j) - 7)) + 1) (by first | rfl | omega | (simp; done) | (simp; omega))) fun w hS =>wt<|wc_region<|mv O O O<|subi (by omega) (by omega) O O O O<|ian ((14 - j) - 8) (((14 - j) - 8)) un240 sz3 O O O O (by omega) (by omega) (by omega)<|lo 0 sc3 hS O O O O (NV_get _ ((14 - j) - 8) (by omega))<|addi (by omega) (by omega) O O O O<|ian ((14 - j) - 8) (((14 - j) - 8)) un240 sz3 O O O O (by omega) (by omega) (by omega)<|st 0 sz3 hS O O O O O O (by rw [NV_size]; omega) (NV_seti _ _ ((gn ((((rdR (mOut a b 8) j).setIfInBounds ((14 - j) - 4) ((gn (rdR (mOut a b 8) j) ((14 - j) - 4)) + 1)).setIfInBounds ((14 - j) - 5) ((gn ((rdR (mOut a b 8) j).setIfInBounds ((14 - j) - 4) ((gn (rdR (mOut a b 8) j) ((14 - j) - 4)) + 1)) ((14 - j) - 5)) + 1)).setIfInBounds ((14 - j) - 7) ((gn (((rdR (mOut a b 8) j).setIfInBounds ((14 - j) - 4) ((gn (rdR (mOut a b 8) j) ((14 - j) - 4)) + 1)).setIfInBounds ((14 - j) - 5) ((gn ((rdR (mOut a b 8) j).setIfInBounds ((14 - j) - 4) ((gn (rdR (mOut a b 8) j) ((14 - j) - 4)) + 1)) ((14 - j) - 5)) + 1)) ((14 - j) - 7)) + 1)) ((14 - j) - 8)) + 1) (by first | rfl | omega | (simp; done) | (simp; omega))) fun w hS =>q_block_norm ?_
    refine wt<|wc_region<|mv O O O<|subi (by omega) (by omega) O O O O<|asg O O O ?_
    refine again_q (j + 1) ⟨O, O, lkI O (by first | omega | rfl), trivial⟩ ⟨by omega, (by rw [rd_t hq]; exact hS)⟩ (by omega)
   ·try simp only [SB] at hc4
    have hq : ¬ gn (rdR (mOut a b 8) j) (14 - j) % 2 = 1 := by omega
    refine wc_skip<|q_block_norm<|wt<|wc_region<|mv O O O<|subi (by omega) (by omega) O O O O<|asg O O O ?_
    refine again_q (j + 1) ⟨O, O, lkI O (by first | omega | rfl), trivial⟩ ⟨by omega, (by rw [rd_f hq]; exact hS)⟩ (by omega)
  ·try simp only [SB] at hc3
   have hj7 : j = 7 := by omega
   rw [hj7] at hS
   refine wc_exit<|q_then_exit<|q_then_exit<|q_block_hit<|wt<|rg<|asg O O O<|wt<|wc_seq<|rg<|asg O O O<|wt ?_
   refine wc_block ?_
   refine wc_loop (σ := Nat) (fun k =>[(4, U8 0), (5, Ptr b5 0), (9, I (((smR (rdR (mOut a b 8) 7) k : Nat) : Int))), (10, I ((k : Int)))])
    (fun k w => (k ≤ 8) ∧ St w0 [] [(b5, .cells (NV (rdR (mOut a b 8) 7)) 240)] w) (fun k => 8 - k) 0 ⟨rfl, rfl, rfl, rfl, trivial⟩ ⟨by omega, hS⟩ ?_
   rintro k w ⟨hk, hS⟩
   have hs := sm_le (rdR (mOut a b 8) 7) k (by omega)
   refine wc_seq<|rg<|mv O O O<|lss O O O O<|wt ?_
   refine wc_if O (fun hc5 =>?_) (fun hc5 =>?_)
   ·try simp only [SB] at hc5
    refine wc_skip<|wt<|wc_seq<|wc_block<|wc_region<|mv O O O<|mv O O O<|ian k k un240 sz3 O O O O (by omega) (by omega) (by omega)<|lo 0 sc3 hS O O O O (NV_get _ k (by omega))<|remi (by omega) (by omega) O O O O<|mv O O O<|cvu64 un171 ⟨_, un3⟩ O O O ?_
    refine shlin k (toU64_un (by omega) (by omega)) (by omega) (by have h := shb (gn (rdR (mOut a b 8) 7) k) k (by omega); omega) (by have h := shb (gn (rdR (mOut a b 8) 7) k) k (by omega); omega) O O O O<|addi (by have h := shb (gn (rdR (mOut a b 8) 7) k) k (by omega); omega) (by have h := shb (gn (rdR (mOut a b 8) 7) k) k (by omega); omega) O O O O<|asg O O O<|q_block_norm<|wt<|wc_region<|mv O O O<|addi (by omega) (by omega) O O O O<|asg O O O ?_
    refine again_q (k + 1) ⟨O, O, lkI O (by simp [smR]), lkI O (by first | omega | rfl), trivial⟩ ⟨by omega, hS⟩ (by omega)
   ·try simp only [SB] at hc5
    refine wc_exit<|q_then_exit<|q_then_exit<|q_block_hit<|wt<|rg<|mv O O O<|cvu8 un5 ⟨_, un3⟩ O O O<|asg O O O<|wt<|wc_ret<|fin1 (v := U8 (toU8 (((smR (rdR (mOut a b 8) 7) k : Nat) : Int)))) O O ?_
    have hk8 : k = 8 := by omega
    subst hk8
    exact ⟨rfl, hS.drop⟩
theorem sp_mooringref04_Affine (b : UInt8) (w0 : World) : Calls Tryz.prog 120 #[U8 b] w0 (Ret w0 (U8 (afR b))) := by
 refine enter (args := [U8 b]) Tryz.func120 O O<|startw fun w hS =>rg<|asg O O O<|wt<|rg<|asg O O O<|wt<|wc_seq<|rg<|asg O O O<|wt ?_
 refine wc_block ?_
 refine wc_loop (σ := Nat) (fun m =>[(0, U8 b), (2, U8 0), (3, I (((afX b m : Nat) : Int))), (4, I ((m : Int)))])
  (fun m w => (m ≤ 8) ∧ St w0 [] [] w) (fun m => 8 - m) 0 ⟨rfl, rfl, rfl, rfl, trivial⟩ ⟨by omega, hS⟩ ?_
 rintro m w ⟨hk, hS⟩
 have hx := afX_le b m (by omega)
 have hp : 0 ≤ (99 : Int) / ((2 ^ m : Nat) : Int) := Int.ediv_nonneg (by omega) (Int.natCast_nonneg _)
 refine wc_seq<|rg<|mv O O O<|lss O O O O<|wt ?_
 refine wc_if O (fun hc1 =>?_) (fun hc1 =>?_)
 ·try simp only [SB] at hc1
  refine wc_skip<|wt<|wc_seq<|wc_block<|rg<|mv O O O<|cvu64 un171 ⟨_, un3⟩ O O O<|shrin m (toU64_un (by omega) (by omega)) (by omega) O O O O<|remi (by omega) (by omega) O O O O<|asg O O O<|wt<|rg ?_
  refine mv O O O<|mv O O O<|mv O O O<|cvu64 un171 ⟨_, un3⟩ O O O<|shrn8 m (toU64_un (by omega) (by omega)) O O O O<|cvi un3 ⟨_, un5⟩ (by have := (shr8 b m).toNat_lt; omega) (by have := (shr8 b m).toNat_lt; omega) O O O<|remi (by omega) (by omega) O O O O<|addi (by omega) (by omega) O O O O<|asg O O O<|wt<|wc_seq<|rg ?_
  refine asg O O O<|wt<|wc_block ?_
  refine wc_loop (σ := Nat) (fun k =>[(0, U8 b), (2, U8 0), (3, I (((afX b m : Nat) : Int))), (4, I ((m : Int))), (5, I (((afN b m k : Nat) : Int))), (6, I ((4 : Int) + (k : Int)))])
   (fun k w => (k ≤ 4) ∧ St w0 [] [] w) (fun k => 4 - k) 0 ⟨rfl, rfl, rfl, rfl, rfl, rfl, trivial⟩ ⟨by omega, hS⟩ ?_
  rintro k w ⟨hk, hS⟩
  have hn := afN_le b m k
  refine wc_seq<|rg<|mv O O O<|lss O O O O<|wt ?_
  refine wc_if O (fun hc2 =>?_) (fun hc2 =>?_)
  ·try simp only [SB] at hc2
   refine wc_skip<|wt<|wc_seq<|wc_block<|wc_region<|mv O O O<|mv O O O<|mv O O O<|mv O O O<|addi (by omega) (by omega) O O O O<|remi (by omega) (by omega) O O O O<|cvu64 un171 ⟨_, un3⟩ O O O ?_
   refine shrn8 ((m + (4 + k)) % 8) (toU64_un (by omega) (by omega)) O O O O<|cvi un3 ⟨_, un5⟩ (by have := (shr8 b ((m + (4 + k)) % 8)).toNat_lt; omega) (by have := (shr8 b ((m + (4 + k)) % 8)).toNat_lt; omega) O O O<|remi (by omega) (by omega) O O O O<|addi (by omega) (by omega) O O O O<|asg O O O<|q_block_norm<|wt<|wc_region<|mv O O O<|addi (by omega) (by omega) O O O O<|asg O O O ?_
   refine again_q (k + 1) ⟨O, O, O, O, lkI O (by simp [afN, bt]), lkI O (by omega), trivial⟩ ⟨by omega, hS⟩ (by omega)
  ·try simp only [SB] at hc2
   have hk4 : k = 4 := by omega
   subst hk4
   have hn4 := afN_le b m 4
   refine wc_exit<|q_then_exit<|q_then_exit<|q_block_hit<|wt<|wc_region<|mv O O O<|mv O O O<|remi (by omega) (by omega) O O O O<|mv O O O<|cvu64 un171 ⟨_, un3⟩ O O O<|shlin m (toU64_un (by omega) (by omega)) (by omega) (by have h := shb (afN b m 4) m (by omega); omega) (by have h := shb (afN b m 4) m (by omega); omega) O O O O ?_
   refine addi (by have h := shb (afN b m 4) m (by omega); omega) (by have h := shb (afN b m 4) m (by omega); omega) O O O O<|asg O O O<|q_block_norm<|wt<|wc_region<|mv O O O<|addi (by omega) (by omega) O O O O<|asg O O O ?_
   refine again_q (m + 1) ⟨O, O, lkI O (by simp [afX]), lkI O (by first | omega | rfl), trivial⟩ ⟨by omega, hS⟩ (by omega)
 ·try simp only [SB] at hc1
  refine wc_exit<|q_then_exit<|q_then_exit<|q_block_hit<|wt<|rg<|mv O O O<|cvu8 un5 ⟨_, un3⟩ O O O<|asg O O O<|wt<|wc_ret<|fin1 (v := U8 (toU8 (((afX b m : Nat) : Int)))) O O ?_
  have hk8 : m = 8 := by omega
  subst hk8
  exact ⟨rfl, hS.drop⟩
theorem sp_mooringref04_Table (w0 : World) : Calls Tryz.prog 88 #[] w0 (Ret w0 (.agg (BV sboxV))) := by
 refine enter (args := []) Tryz.func88 O O<|startw fun w hS =>rg<|ala zr43 hS O O fun b0 w hb0 hS =>wt<|rg<|ala zr43 hS O O fun b1 w hb1 hS =>wt<|rg<|asg O O O<|wt<|wc_seq ?_
 refine rg<|asg O O O<|wt<|wc_block ?_
 refine wc_loop (σ := Nat) (fun k =>[(0, Ptr b0 0), (1, Ptr b1 0), (2, U8 (pw3R k)), (3, I ((k : Int)))])
  (fun k w => (k ≤ 256) ∧ St w0 [] [(b1, .cells (BV (fill8 256 pw3R (Vector.replicate 256 0) k)) 43), (b0, .cells (BV (Vector.replicate 256 0)) 43)] w) (fun k => 256 - k) 0 ⟨rfl, rfl, rfl, rfl, trivial⟩ ⟨by omega, (by simp only [Nat.zero_mul, Nat.add_zero, fill8_0, fill32_0]; exact hS)⟩ ?_
 rintro k w ⟨hk, hS⟩
 refine wc_seq<|rg<|mv O O O<|lss O O O O<|wt ?_
 refine wc_if O (fun hc1 =>?_) (fun hc1 =>?_)
 ·try simp only [SB] at hc1
  refine wc_skip<|wt<|wc_seq<|wc_block<|rg<|mv O O O<|mv O O O<|ian k k un43 sz5 O O O O (by omega) (by omega) (by omega)<|st (cs' := BV (fill8 256 pw3R (Vector.replicate 256 0) (k + 1))) 0 sz5 hS O O O O O O (by rw [BV_size]; omega) (by rw [BV_set]; exact congrArg BV (fill8_succ pw3R (Vector.replicate 256 0) k)) fun w hS =>wt<|wc_region<|mv O O O ?_
  refine cv cf119 hS O O O O O (sp_mooringref03_Mul ((pw3R k)) 3 _) fun w hS =>asg O O O<|q_block_norm<|wt<|wc_region<|mv O O O<|addi (by omega) (by omega) O O O O<|asg O O O ?_
  refine again_q (k + 1) ⟨O, O, O, lkI O (by first | omega | rfl), trivial⟩ ⟨by omega, hS⟩ (by omega)
 ·try simp only [SB] at hc1
  have hk8 : k = 256 := by omega
  rw [hk8, fill8_n] at hS
  refine wc_exit<|q_then_exit<|q_then_exit<|q_block_hit<|wt<|rg<|ala zr43 hS O O fun b4 w hb4 hS =>wt<|rg<|cv cf120 hS O O O O O (sp_mooringref04_Affine 0 _) fun w hS =>ian 0 0 un43 sz5 O O O O (by omega) (by omega) (by omega)<|st 0 sz5 hS O O O O O O (by rw [BV_size]; omega) (BV_set _ _ (afR 0 : UInt8)) fun w hS =>?_
  refine wt<|wc_seq<|rg<|asg O O O<|wt<|wc_block ?_
  refine wc_loop (σ := Nat) (fun m =>[(0, Ptr b0 0), (1, Ptr b1 0), (4, Ptr b4 0), (5, I ((m : Int)))])
   (fun m w => (m ≤ 255) ∧ St w0 [] [(b4, .cells (BV (tbR m)) 43), (b1, .cells (BV pwV) 43), (b0, .cells (BV (Vector.replicate 256 0)) 43)] w) (fun m => 255 - m) 0 ⟨rfl, rfl, rfl, rfl, trivial⟩ ⟨by omega, hS⟩ ?_
  rintro m w ⟨hk, hS⟩
  refine wc_seq<|rg<|mv O O O<|lss O O O O<|wt ?_
  refine wc_if O (fun hc2 =>?_) (fun hc2 =>?_)
  ·try simp only [SB] at hc2
   refine wc_skip<|wt<|wc_seq<|wc_block<|wc_draw mo 8 (fun w =>St w0 [] [(b4, .cells (BV (tbR m)) 43), (b1, .cells (BV pwV) 43), (b0, .cells (BV (Vector.replicate 256 0)) 43)] w)<|have hS := hS.drew; jx hS fun jj =>dx 0 O (by kernel_rfl) (fun w hS =>mv O O O rr) jj<|dx 1 O (by kernel_rfl) (fun w hS =>ian m m un43 sz5 O O O O (by omega) (by omega) (by omega) rr) jj<|dx 2 O (by kernel_rfl) (fun w hS =>lo 1 sc5 hS O O O O (BV_get _ m (by omega)) rr) jj<|dx 3 O (by kernel_rfl) (fun w hS =>mv O O O rr) jj<|dx 4 O (by kernel_rfl) (fun w hS =>subi (by omega) (by omega) O O O O rr) jj<|dx 5 O (by kernel_rfl) (fun w hS =>ian (255 - m) ((255 - m)) un43 sz5 O O O O (by omega) (by omega) (by omega) rr) jj ?_
   refine dx 6 O (by kernel_rfl) (fun w hS =>lo 1 sc5 hS O O O O (BV_get _ (255 - m) (by omega)) rr) jj ?_
   refine dl 7 O (by kernel_rfl)<|cv cf120 hS O O O O O (sp_mooringref04_Affine ((gv pwV (255 - m))) _) fun w hS =>lx hS fun jj =>?_
   refine dl 8 O (by kernel_rfl)<|ian ((gv pwV m).toNat) (((gv pwV m).toNat)) un43 sz5 O O O O (by omega) (by have := (gv pwV m).toNat_lt; omega) (by omega)<|ly O ?_
   refine dl 9 O (by kernel_rfl)<|st 0 sz5 hS O O O O O O (by rw [BV_size]; have := (gv pwV m).toNat_lt; omega) (BV_set _ _ (afR (gv pwV (255 - m)) : UInt8)) fun w hS =>ly O<|de (by kernel_rfl)<|q_block_norm<|wt<|wc_region<|mv O O O<|addi (by omega) (by omega) O O O O<|asg O O O ?_
   refine again_q (m + 1) ⟨O, O, O, lkI O (by first | omega | rfl), trivial⟩ ⟨by omega, hS⟩ (by omega)
  ·try simp only [SB] at hc2
   refine wc_exit<|q_then_exit<|q_then_exit<|q_block_hit<|wt<|rg<|la 0 ag43 hS O O O O (BV_size _)<|sa 2 ag43 hS O O O (BV_one _) O (BV_size _) (BV_size _) fun w hS =>wt<|wc_ret<|fin1 (v := .agg (BV (tbR m))) O ⟨_, O, lv_a ag43 (hS.get 2 O) (BV_size _)⟩ ?_
   refine ⟨?_, hS.drop⟩
   have hk5 : m = 255 := by omega
   rw [hk5, tbR_sbox]
theorem sp_mooringref03_Power (a : UInt8) (n : Nat) (n_ : Int) (w0 : World) (hn_ : n_ = (n : Int)) (hn : n < 9223372036854775808) : Calls Tryz.prog 149 #[U8 a, I n_] w0 (Ret w0 (U8 (pwR a n))) := by
 subst hn_
 refine enter (args := [U8 a, I (n : Int)]) Tryz.func149 O O<|startw fun w hS =>rg<|asg O O O<|wt<|rg<|asg O O O<|wt<|wc_seq<|rg<|asg O O O<|wt ?_
 refine wc_block ?_
 refine wc_loop (σ := Nat) (fun k =>[(0, U8 a), (1, I ((n : Int))), (4, U8 0), (5, U8 (pwR a k)), (6, I ((k : Int)))])
  (fun k w => (k ≤ n ∧ n < 9223372036854775808) ∧ St w0 [] [] w) (fun k => n - k) 0 ⟨rfl, rfl, rfl, rfl, rfl, trivial⟩ ⟨⟨by omega, hn⟩, hS⟩ ?_
 rintro k w ⟨⟨hk, hn2⟩, hS⟩
 refine wc_seq<|rg<|mv O O O<|mv O O O<|lss O O O O<|wt ?_
 refine wc_if O (fun hc1 =>?_) (fun hc1 =>?_)
 ·try simp only [SB] at hc1
  refine wc_skip<|wt<|wc_seq<|wc_block<|wc_region<|mv O O O<|mv O O O<|cv cf119 hS O O O O O (sp_mooringref03_Mul ((pwR a k)) a _) fun w hS =>asg O O O<|q_block_norm<|wt<|wc_region ?_
  refine mv O O O<|addi (by omega) (by omega) O O O O<|asg O O O ?_
  refine again_q (k + 1) ⟨O, O, O, O, lkI O (by first | omega | rfl), trivial⟩ ⟨⟨by omega, hn2⟩, hS⟩ (by omega)
 ·try simp only [SB] at hc1
  refine wc_exit<|q_then_exit<|q_then_exit<|q_block_hit<|wt<|rg<|mv O O O<|asg O O O<|wt<|wc_ret<|fin1 (v := U8 (pwR a k)) O O ?_
  have hk4 : k = n := by omega
  subst hk4
  exact ⟨rfl, hS.drop⟩
theorem sp_mooringref05_Words (key : V8 16) (w0 : World) : Calls Tryz.prog 118 #[.agg (BV key)] w0 (Ret w0 (.agg (BV (wdS key 44)))) := by
 refine enter (args := [.agg (BV key)]) Tryz.func118 O O<|startw fun w hS =>rg<|bxa hS O O O fun b1 w hb1 hS =>ala zr213 hS O O fun b2 w hb2 hS =>wt<|rg<|cv cf88 hS O O O O O (sp_mooringref04_Table _) fun w hS =>ala zr43 hS O O fun b3 w hb3 hS =>sa 0 ag43 hS O O O (BV_one _) O (BV_size _) (BV_size _) fun w hS =>wt<|rg ?_
 refine ala zr213 hS O O fun b4 w hb4 hS =>wt<|wc_seq<|rg<|asg O O O<|wt<|wc_block ?_
 refine wc_loop (σ := Nat) (fun m =>[(1, Ptr b1 0), (2, Ptr b2 0), (3, Ptr b3 0), (4, Ptr b4 0), (5, I ((m : Int)))])
  (fun m w => (m ≤ 44) ∧ St w0 [] [(b4, .cells (BV (wdS key m)) 213), (b3, .cells (BV sboxV) 43), (b2, .cells (BV (Vector.replicate 176 0)) 213), (b1, .cells (BV key) 22)] w) (fun m => 44 - m) 0 ⟨rfl, rfl, rfl, rfl, rfl, trivial⟩ ⟨by omega, hS⟩ ?_
 rintro m w ⟨hk, hS⟩
 refine wc_seq<|rg<|mv O O O<|lss O O O O<|wt ?_
 refine wc_if O (fun hc1 =>?_) (fun hc1 =>?_)
 ·try simp only [SB] at hc1
  refine wc_skip<|wt<|wc_seq<|wc_block<|wc_seq<|rg<|mv O O O<|lss O O O O<|wt ?_
  refine wc_if O (fun hc2 =>?_) (fun hc2 =>?_)
  ·try simp only [SB] at hc2
   have hi4 : m < 4 := by omega
   refine rd mo 21 (fun w =>St w0 [] [(b3, .cells (BV sboxV) 43), (b2, .cells (BV (Vector.replicate 176 0)) 213), (b1, .cells (BV key) 22)] w)<|have hS := hS.drew; jx (hS.sl 4 14) fun jj =>dx 0 O (by kernel_rfl) (fun w hS =>mv O O O rr) jj<|dx 1 O (by kernel_rfl) (fun w hS =>mv O O O rr) jj<|dx 2 O (by kernel_rfl) (fun w hS =>muli (by omega) (by omega) O O O O rr) jj<|dx 3 O (by kernel_rfl) (fun w hS =>ian (4 * m) ((4 * m)) un22 sz5 O O O O (by omega) (by omega) (by omega) rr) jj<|dx 4 O (by kernel_rfl) (fun w hS =>lo 2 sc5 hS O O O O (BV_get _ (4 * m) (by omega)) rr) jj<|dx 5 O (by kernel_rfl) (fun w hS =>mv O O O rr) jj<|dx 6 O (by kernel_rfl) (fun w hS =>muli (by omega) (by omega) O O O O rr) jj<|dx 7 O (by kernel_rfl) (fun w hS =>addi (by omega) (by omega) O O O O rr) jj<|dx 8 O (by kernel_rfl) (fun w hS =>ian ((4 * m) + 1) (((4 * m) + 1)) un22 sz5 O O O O (by omega) (by omega) (by omega) rr) jj<|dx 9 O (by kernel_rfl) (fun w hS =>lo 2 sc5 hS O O O O (BV_get _ ((4 * m) + 1) (by omega)) rr) jj ?_
   refine dx 10 O (by kernel_rfl) (fun w hS =>mv O O O rr) jj<|dx 11 O (by kernel_rfl) (fun w hS =>muli (by omega) (by omega) O O O O rr) jj<|dx 12 O (by kernel_rfl) (fun w hS =>addi (by omega) (by omega) O O O O rr) jj<|dx 13 O (by kernel_rfl) (fun w hS =>ian ((4 * m) + 2) (((4 * m) + 2)) un22 sz5 O O O O (by omega) (by omega) (by omega) rr) jj<|dx 14 O (by kernel_rfl) (fun w hS =>lo 2 sc5 hS O O O O (BV_get _ ((4 * m) + 2) (by omega)) rr) jj<|dx 15 O (by kernel_rfl) (fun w hS =>mv O O O rr) jj<|dx 16 O (by kernel_rfl) (fun w hS =>muli (by omega) (by omega) O O O O rr) jj<|dx 17 O (by kernel_rfl) (fun w hS =>addi (by omega) (by omega) O O O O rr) jj<|dx 18 O (by kernel_rfl) (fun w hS =>ian ((4 * m) + 3) (((4 * m) + 3)) un22 sz5 O O O O (by omega) (by omega) (by omega) rr) jj<|dx 19 O (by kernel_rfl) (fun w hS =>lo 2 sc5 hS O O O O (BV_get _ ((4 * m) + 3) (by omega)) rr) jj<|dx 20 O (by kernel_rfl) (fun w hS =>bd (cs := BV (#v[gv key (4 * m), gv key ((4 * m) + 1), gv key ((4 * m) + 2), gv key ((4 * m) + 3)])) O O O (by kernel_rfl) rr) jj ?_
   refine dl 21 O (by kernel_rfl)<|ian m (m * 4) un213 sz205 O O O O (by omega) (by omega) (by omega)<|ly O ?_
   refine dl 22 O (by kernel_rfl)<|spp (cs' := BV (put8 (wdS key m) (m * 4) (#v[gv key (4 * m), gv key ((4 * m) + 1), gv key ((4 * m) + 2), gv key ((4 * m) + 3)]))) 0 ag205 hS O O O (BV_one _) O (le_sz (a := 176) (BV_size _) (by omega)) (BV_size _) (BV_put _ _ _ (by omega)) fun w hS =>ly O<|de (by kernel_rfl)<|wt<|wc_exit<|q_then_exit<|q_block_hit<|wt<|wc_region<|mv O O O<|addi (by omega) (by omega) O O O O ?_
   refine asg O O O ?_
   refine again_q (m + 1) ⟨O, O, O, O, lkI O (by first | omega | rfl), trivial⟩ ⟨by omega, (by rw [wd_lo hi4]; exact hS)⟩ (by omega)
  ·try simp only [SB] at hc2
   have hi4 : ¬ m < 4 := by omega
   refine wc_skip<|wt<|rg<|mv O O O<|subi (by omega) (by omega) O O O O<|ian (m - 1) ((m - 1) * 4) un213 sz205 O O O O (by omega) (by omega) (by omega)<|lp (u := .agg (BV (seg8 4 (wdS key m) ((m - 1) * 4)))) 0 ag205 hS O O O O (by rw [BV_size]; omega) (BV_extract 4 _ ((m - 1) * 4) (by omega)) O<|ala zr205 hS O O fun b6 w hb6 hS =>sa 0 ag205 hS O O O (BV_one _) O (BV_size _) (BV_size _) fun w hS =>wt<|wc_seq<|rg ?_
   refine mv O O O<|remi (by omega) (by omega) O O O O<|eqi O O O O<|wt ?_
   refine wc_if O (fun hc3 =>?_) (fun hc3 =>?_)
   ·try simp only [SB] at hc3
    have h0 : m % 4 = 0 := by omega
    refine rd mo 17 (fun w =>St w0 [] [(b6, .cells (BV (seg8 4 (wdS key m) ((m - 1) * 4))) 205), (b4, .cells (BV (wdS key m)) 213), (b3, .cells (BV sboxV) 43), (b2, .cells (BV (Vector.replicate 176 0)) 213), (b1, .cells (BV key) 22)] w)<|have hS := hS.drew; jx hS fun jj =>dx 0 O (by kernel_rfl) (fun w hS =>ian 1 1 un205 sz5 O O O O (by omega) (by omega) (by omega) rr) jj<|dx 1 O (by kernel_rfl) (fun w hS =>lo 0 sc5 hS O O O O (BV_get _ 1 (by omega)) rr) jj<|dx 2 O (by kernel_rfl) (fun w hS =>ian ((gv (seg8 4 (wdS key m) ((m - 1) * 4)) 1).toNat) (((gv (seg8 4 (wdS key m) ((m - 1) * 4)) 1).toNat)) un43 sz5 O O O O (by omega) (by have := (gv (seg8 4 (wdS key m) ((m - 1) * 4)) 1).toNat_lt; omega) (by omega) rr) jj<|dx 3 O (by kernel_rfl) (fun w hS =>lo 2 sc5 hS O O O O (BV_get _ ((gv (seg8 4 (wdS key m) ((m - 1) * 4)) 1).toNat) (by have := (gv (seg8 4 (wdS key m) ((m - 1) * 4)) 1).toNat_lt; omega)) rr) jj<|dx 4 O (by kernel_rfl) (fun w hS =>ian 2 2 un205 sz5 O O O O (by omega) (by omega) (by omega) rr) jj<|dx 5 O (by kernel_rfl) (fun w hS =>lo 0 sc5 hS O O O O (BV_get _ 2 (by omega)) rr) jj<|dx 6 O (by kernel_rfl) (fun w hS =>ian ((gv (seg8 4 (wdS key m) ((m - 1) * 4)) 2).toNat) (((gv (seg8 4 (wdS key m) ((m - 1) * 4)) 2).toNat)) un43 sz5 O O O O (by omega) (by have := (gv (seg8 4 (wdS key m) ((m - 1) * 4)) 2).toNat_lt; omega) (by omega) rr) jj<|dx 7 O (by kernel_rfl) (fun w hS =>lo 2 sc5 hS O O O O (BV_get _ ((gv (seg8 4 (wdS key m) ((m - 1) * 4)) 2).toNat) (by have := (gv (seg8 4 (wdS key m) ((m - 1) * 4)) 2).toNat_lt; omega)) rr) jj<|dx 8 O (by kernel_rfl) (fun w hS =>ian 3 3 un205 sz5 O O O O (by omega) (by omega) (by omega) rr) jj<|dx 9 O (by kernel_rfl) (fun w hS =>lo 0 sc5 hS O O O O (BV_get _ 3 (by omega)) rr) jj ?_
    refine dx 10 O (by kernel_rfl) (fun w hS =>ian ((gv (seg8 4 (wdS key m) ((m - 1) * 4)) 3).toNat) (((gv (seg8 4 (wdS key m) ((m - 1) * 4)) 3).toNat)) un43 sz5 O O O O (by omega) (by have := (gv (seg8 4 (wdS key m) ((m - 1) * 4)) 3).toNat_lt; omega) (by omega) rr) jj<|dx 11 O (by kernel_rfl) (fun w hS =>lo 2 sc5 hS O O O O (BV_get _ ((gv (seg8 4 (wdS key m) ((m - 1) * 4)) 3).toNat) (by have := (gv (seg8 4 (wdS key m) ((m - 1) * 4)) 3).toNat_lt; omega)) rr) jj<|dx 12 O (by kernel_rfl) (fun w hS =>ian 0 0 un205 sz5 O O O O (by omega) (by omega) (by omega) rr) jj<|dx 13 O (by kernel_rfl) (fun w hS =>lo 0 sc5 hS O O O O (BV_get _ 0 (by omega)) rr) jj<|dx 14 O (by kernel_rfl) (fun w hS =>ian ((gv (seg8 4 (wdS key m) ((m - 1) * 4)) 0).toNat) (((gv (seg8 4 (wdS key m) ((m - 1) * 4)) 0).toNat)) un43 sz5 O O O O (by omega) (by have := (gv (seg8 4 (wdS key m) ((m - 1) * 4)) 0).toNat_lt; omega) (by omega) rr) jj<|dx 15 O (by kernel_rfl) (fun w hS =>lo 2 sc5 hS O O O O (BV_get _ ((gv (seg8 4 (wdS key m) ((m - 1) * 4)) 0).toNat) (by have := (gv (seg8 4 (wdS key m) ((m - 1) * 4)) 0).toNat_lt; omega)) rr) jj<|dx 16 O (by kernel_rfl) (fun w hS =>bd (cs := BV (#v[gv sboxV ((gv (seg8 4 (wdS key m) ((m - 1) * 4)) 1).toNat), gv sboxV ((gv (seg8 4 (wdS key m) ((m - 1) * 4)) 2).toNat), gv sboxV ((gv (seg8 4 (wdS key m) ((m - 1) * 4)) 3).toNat), gv sboxV ((gv (seg8 4 (wdS key m) ((m - 1) * 4)) 0).toNat)])) O O O (by kernel_rfl) rr) jj ?_
    refine dl 17 O (by kernel_rfl)<|sa 0 ag205 hS O O O (BV_one _) O (BV_size _) (BV_size _) fun w hS =>ly O<|de (by kernel_rfl)<|wt<|wc_draw mo 7 (fun w =>St w0 [] [(b6, .cells (BV (#v[gv sboxV ((gv (seg8 4 (wdS key m) ((m - 1) * 4)) 1).toNat), gv sboxV ((gv (seg8 4 (wdS key m) ((m - 1) * 4)) 2).toNat), gv sboxV ((gv (seg8 4 (wdS key m) ((m - 1) * 4)) 3).toNat), gv sboxV ((gv (seg8 4 (wdS key m) ((m - 1) * 4)) 0).toNat)])) 205), (b4, .cells (BV (wdS key m)) 213), (b3, .cells (BV sboxV) 43), (b2, .cells (BV (Vector.replicate 176 0)) 213), (b1, .cells (BV key) 22)] w)<|have hS := hS.drew; jx hS fun jj =>dx 0 O (by kernel_rfl) (fun w hS =>ian 0 0 un205 sz5 O O O O (by omega) (by omega) (by omega) rr) jj<|dx 1 O (by kernel_rfl) (fun w hS =>lo 0 sc5 hS O O O O (BV_get _ 0 (by omega)) rr) jj<|dx 2 O (by kernel_rfl) (fun w hS =>mv O O O rr) jj<|dx 3 O (by kernel_rfl) (fun w hS =>quoi (by omega) (by omega) (by omega) O O O O rr) jj<|dx 4 O (by kernel_rfl) (fun w hS =>subi (by omega) (by omega) O O O O rr) jj ?_
    refine dl 5 O (by kernel_rfl)<|cv cf149 hS O O O O O (sp_mooringref03_Power 2 (((m / 4) - 1)) _ _ (by omega) (by omega)) fun w hS =>lx hS fun jj =>dx 6 O (by kernel_rfl) (fun w hS =>xor8 O O O O rr) jj ?_
    refine dl 7 O (by kernel_rfl)<|ian 0 0 un205 sz5 O O O O (by omega) (by omega) (by omega)<|ly O ?_
    refine dl 8 O (by kernel_rfl)<|st 0 sz5 hS O O O O O O (by rw [BV_size]; omega) (BV_set _ _ ((gv (#v[gv sboxV ((gv (seg8 4 (wdS key m) ((m - 1) * 4)) 1).toNat), gv sboxV ((gv (seg8 4 (wdS key m) ((m - 1) * 4)) 2).toNat), gv sboxV ((gv (seg8 4 (wdS key m) ((m - 1) * 4)) 3).toNat), gv sboxV ((gv (seg8 4 (wdS key m) ((m - 1) * 4)) 0).toNat)]) 0) ^^^ (pwR 2 ((m / 4) - 1)) : UInt8)) fun w hS =>ly O<|de (by kernel_rfl)<|wt<|rg<|asg O O O<|wt<|wc_block ?_
    refine wc_loop (σ := Nat) (fun k =>[(1, Ptr b1 0), (2, Ptr b2 0), (3, Ptr b3 0), (4, Ptr b4 0), (5, I ((m : Int))), (6, Ptr b6 0), (7, I ((k : Int)))])
     (fun k w => (k ≤ 4) ∧ St w0 [] [(b6, .cells (BV ((#v[gv sboxV ((gv (seg8 4 (wdS key m) ((m - 1) * 4)) 1).toNat), gv sboxV ((gv (seg8 4 (wdS key m) ((m - 1) * 4)) 2).toNat), gv sboxV ((gv (seg8 4 (wdS key m) ((m - 1) * 4)) 3).toNat), gv sboxV ((gv (seg8 4 (wdS key m) ((m - 1) * 4)) 0).toNat)]).setIfInBounds 0 ((gv (#v[gv sboxV ((gv (seg8 4 (wdS key m) ((m - 1) * 4)) 1).toNat), gv sboxV ((gv (seg8 4 (wdS key m) ((m - 1) * 4)) 2).toNat), gv sboxV ((gv (seg8 4 (wdS key m) ((m - 1) * 4)) 3).toNat), gv sboxV ((gv (seg8 4 (wdS key m) ((m - 1) * 4)) 0).toNat)]) 0) ^^^ (pwR 2 ((m / 4) - 1))))) 205), (b4, .cells (BV (wdIn (wdS key m) ((#v[gv sboxV ((gv (seg8 4 (wdS key m) ((m - 1) * 4)) 1).toNat), gv sboxV ((gv (seg8 4 (wdS key m) ((m - 1) * 4)) 2).toNat), gv sboxV ((gv (seg8 4 (wdS key m) ((m - 1) * 4)) 3).toNat), gv sboxV ((gv (seg8 4 (wdS key m) ((m - 1) * 4)) 0).toNat)]).setIfInBounds 0 ((gv (#v[gv sboxV ((gv (seg8 4 (wdS key m) ((m - 1) * 4)) 1).toNat), gv sboxV ((gv (seg8 4 (wdS key m) ((m - 1) * 4)) 2).toNat), gv sboxV ((gv (seg8 4 (wdS key m) ((m - 1) * 4)) 3).toNat), gv sboxV ((gv (seg8 4 (wdS key m) ((m - 1) * 4)) 0).toNat)]) 0) ^^^ (pwR 2 ((m / 4) - 1)))) m k)) 213), (b3, .cells (BV sboxV) 43), (b2, .cells (BV (Vector.replicate 176 0)) 213), (b1, .cells (BV key) 22)] w) (fun k => 4 - k) 0 ⟨rfl, rfl, rfl, rfl, rfl, rfl, rfl, trivial⟩ ⟨by omega, hS⟩ ?_
    rintro k w ⟨hk, hS⟩
    refine wc_seq<|rg<|mv O O O<|lss O O O O<|wt ?_
    refine wc_if O (fun hc4 =>?_) (fun hc4 =>?_)
    ·try simp only [SB] at hc4
     refine wc_skip<|wt<|wc_seq<|wc_block<|wc_draw mo 15 (fun w =>St w0 [] [(b6, .cells (BV ((#v[gv sboxV ((gv (seg8 4 (wdS key m) ((m - 1) * 4)) 1).toNat), gv sboxV ((gv (seg8 4 (wdS key m) ((m - 1) * 4)) 2).toNat), gv sboxV ((gv (seg8 4 (wdS key m) ((m - 1) * 4)) 3).toNat), gv sboxV ((gv (seg8 4 (wdS key m) ((m - 1) * 4)) 0).toNat)]).setIfInBounds 0 ((gv (#v[gv sboxV ((gv (seg8 4 (wdS key m) ((m - 1) * 4)) 1).toNat), gv sboxV ((gv (seg8 4 (wdS key m) ((m - 1) * 4)) 2).toNat), gv sboxV ((gv (seg8 4 (wdS key m) ((m - 1) * 4)) 3).toNat), gv sboxV ((gv (seg8 4 (wdS key m) ((m - 1) * 4)) 0).toNat)]) 0) ^^^ (pwR 2 ((m / 4) - 1))))) 205), (b3, .cells (BV sboxV) 43), (b2, .cells (BV (Vector.replicate 176 0)) 213), (b1, .cells (BV key) 22)] w)<|have hS := hS.drew; jx (hS.sl 5 29) fun jj =>dx 0 O (by kernel_rfl) (fun w hS =>mv O O O rr) jj<|dx 1 O (by kernel_rfl) (fun w hS =>mv O O O rr) jj<|dx 2 O (by kernel_rfl) (fun w hS =>mv O O O rr) jj<|dx 3 O (by kernel_rfl) (fun w hS =>subi (by omega) (by omega) O O O O rr) jj<|dx 4 O (by kernel_rfl) (fun w hS =>mv O O O rr) jj<|dx 5 O (by kernel_rfl) (fun w hS =>ian (m - 4) ((m - 4) * 4) un213 sz205 O O O O (by omega) (by omega) (by omega) rr) jj ?_
     refine dx 6 O (by kernel_rfl) (fun w hS =>ian k ((m - 4) * 4 + k) un205 sz5 O O O O (by omega) (by omega) (by omega) rr) jj<|dx 8 O (by kernel_rfl) (fun w hS =>mv O O O rr) jj<|dx 9 O (by kernel_rfl) (fun w hS =>ian k k un205 sz5 O O O O (by omega) (by omega) (by omega) rr) jj<|dx 10 O (by kernel_rfl) (fun w hS =>lo 0 sc5 hS O O O O (BV_get _ k (by omega)) rr) jj<|dx 12 O (by kernel_rfl) (fun w hS =>ian m (m * 4) un213 sz205 O O O O (by omega) (by omega) (by omega) rr) jj ?_
     refine dl 7 O (by kernel_rfl)<|lo 1 sc5 hS O O O O (BV_get _ ((m - 4) * 4 + k) (by omega))<|lx (hS.sl 5 29) fun jj =>dx 11 O (by kernel_rfl) (fun w hS =>xor8 O O O O rr) jj<|dx 13 O (by kernel_rfl) (fun w hS =>ian k (m * 4 + k) un205 sz5 O O O O (by omega) (by omega) (by omega) rr) jj ?_
     refine dl 14 O (by kernel_rfl)<|st 1 sz5 hS O O O O O O (by rw [BV_size]; omega) (BV_set _ _ ((gv (wdIn (wdS key m) ((#v[gv sboxV ((gv (seg8 4 (wdS key m) ((m - 1) * 4)) 1).toNat), gv sboxV ((gv (seg8 4 (wdS key m) ((m - 1) * 4)) 2).toNat), gv sboxV ((gv (seg8 4 (wdS key m) ((m - 1) * 4)) 3).toNat), gv sboxV ((gv (seg8 4 (wdS key m) ((m - 1) * 4)) 0).toNat)]).setIfInBounds 0 ((gv (#v[gv sboxV ((gv (seg8 4 (wdS key m) ((m - 1) * 4)) 1).toNat), gv sboxV ((gv (seg8 4 (wdS key m) ((m - 1) * 4)) 2).toNat), gv sboxV ((gv (seg8 4 (wdS key m) ((m - 1) * 4)) 3).toNat), gv sboxV ((gv (seg8 4 (wdS key m) ((m - 1) * 4)) 0).toNat)]) 0) ^^^ (pwR 2 ((m / 4) - 1)))) m k) ((m - 4) * 4 + k)) ^^^ (gv ((#v[gv sboxV ((gv (seg8 4 (wdS key m) ((m - 1) * 4)) 1).toNat), gv sboxV ((gv (seg8 4 (wdS key m) ((m - 1) * 4)) 2).toNat), gv sboxV ((gv (seg8 4 (wdS key m) ((m - 1) * 4)) 3).toNat), gv sboxV ((gv (seg8 4 (wdS key m) ((m - 1) * 4)) 0).toNat)]).setIfInBounds 0 ((gv (#v[gv sboxV ((gv (seg8 4 (wdS key m) ((m - 1) * 4)) 1).toNat), gv sboxV ((gv (seg8 4 (wdS key m) ((m - 1) * 4)) 2).toNat), gv sboxV ((gv (seg8 4 (wdS key m) ((m - 1) * 4)) 3).toNat), gv sboxV ((gv (seg8 4 (wdS key m) ((m - 1) * 4)) 0).toNat)]) 0) ^^^ (pwR 2 ((m / 4) - 1)))) k) : UInt8)) fun w hS =>lx (hS.sl 5 29) fun jj =>de (by kernel_rfl)<|q_block_norm<|wt<|wc_region<|mv O O O<|addi (by omega) (by omega) O O O O<|asg O O O ?_
     refine again_q (k + 1) ⟨O, O, O, O, O, O, lkI O (by first | omega | rfl), trivial⟩ ⟨by omega, hS⟩ (by omega)
    ·try simp only [SB] at hc4
     have hk4 : k = 4 := by omega
     rw [hk4] at hS
     refine wc_exit<|q_then_exit<|q_then_exit<|q_block_hit<|q_block_norm<|wt<|wc_region<|mv O O O<|addi (by omega) (by omega) O O O O<|asg O O O ?_
     refine again_q (m + 1) ⟨O, O, O, O, lkI O (by first | omega | rfl), trivial⟩ ⟨by omega, (by rw [wd_0 hi4 h0]; exact hS.tl)⟩ (by omega)
   ·try simp only [SB] at hc3
    have h0 : ¬ m % 4 = 0 := by omega
    refine wc_skip<|wt<|rg<|asg O O O<|wt<|wc_block ?_
    refine wc_loop (σ := Nat) (fun k =>[(1, Ptr b1 0), (2, Ptr b2 0), (3, Ptr b3 0), (4, Ptr b4 0), (5, I ((m : Int))), (6, Ptr b6 0), (7, I ((k : Int)))])
     (fun k w => (k ≤ 4) ∧ St w0 [] [(b6, .cells (BV (seg8 4 (wdS key m) ((m - 1) * 4))) 205), (b4, .cells (BV (wdIn (wdS key m) (seg8 4 (wdS key m) ((m - 1) * 4)) m k)) 213), (b3, .cells (BV sboxV) 43), (b2, .cells (BV (Vector.replicate 176 0)) 213), (b1, .cells (BV key) 22)] w) (fun k => 4 - k) 0 ⟨rfl, rfl, rfl, rfl, rfl, rfl, rfl, trivial⟩ ⟨by omega, hS⟩ ?_
    rintro k w ⟨hk, hS⟩
    refine wc_seq<|rg<|mv O O O<|lss O O O O<|wt ?_
    refine wc_if O (fun hc5 =>?_) (fun hc5 =>?_)
    ·try simp only [SB] at hc5
     refine wc_skip<|wt<|wc_seq<|wc_block<|wc_draw mo 15 (fun w =>St w0 [] [(b6, .cells (BV (seg8 4 (wdS key m) ((m - 1) * 4))) 205), (b3, .cells (BV sboxV) 43), (b2, .cells (BV (Vector.replicate 176 0)) 213), (b1, .cells (BV key) 22)] w)<|have hS := hS.drew; jx (hS.sl 5 29) fun jj =>dx 0 O (by kernel_rfl) (fun w hS =>mv O O O rr) jj<|dx 1 O (by kernel_rfl) (fun w hS =>mv O O O rr) jj<|dx 2 O (by kernel_rfl) (fun w hS =>mv O O O rr) jj<|dx 3 O (by kernel_rfl) (fun w hS =>subi (by omega) (by omega) O O O O rr) jj<|dx 4 O (by kernel_rfl) (fun w hS =>mv O O O rr) jj<|dx 5 O (by kernel_rfl) (fun w hS =>ian (m - 4) ((m - 4) * 4) un213 sz205 O O O O (by omega) (by omega) (by omega) rr) jj ?_
     refine dx 6 O (by kernel_rfl) (fun w hS =>ian k ((m - 4) * 4 + k) un205 sz5 O O O O (by omega) (by omega) (by omega) rr) jj<|dx 8 O (by kernel_rfl) (fun w hS =>mv O O O rr) jj<|dx 9 O (by kernel_rfl) (fun w hS =>ian k k un205 sz5 O O O O (by omega) (by omega) (by omega) rr) jj<|dx 10 O (by kernel_rfl) (fun w hS =>lo 0 sc5 hS O O O O (BV_get _ k (by omega)) rr) jj<|dx 12 O (by kernel_rfl) (fun w hS =>ian m (m * 4) un213 sz205 O O O O (by omega) (by omega) (by omega) rr) jj ?_
     refine dl 7 O (by kernel_rfl)<|lo 1 sc5 hS O O O O (BV_get _ ((m - 4) * 4 + k) (by omega))<|lx (hS.sl 5 29) fun jj =>dx 11 O (by kernel_rfl) (fun w hS =>xor8 O O O O rr) jj<|dx 13 O (by kernel_rfl) (fun w hS =>ian k (m * 4 + k) un205 sz5 O O O O (by omega) (by omega) (by omega) rr) jj ?_
     refine dl 14 O (by kernel_rfl)<|st 1 sz5 hS O O O O O O (by rw [BV_size]; omega) (BV_set _ _ ((gv (wdIn (wdS key m) (seg8 4 (wdS key m) ((m - 1) * 4)) m k) ((m - 4) * 4 + k)) ^^^ (gv (seg8 4 (wdS key m) ((m - 1) * 4)) k) : UInt8)) fun w hS =>lx (hS.sl 5 29) fun jj =>de (by kernel_rfl)<|q_block_norm<|wt<|wc_region<|mv O O O<|addi (by omega) (by omega) O O O O<|asg O O O ?_
     refine again_q (k + 1) ⟨O, O, O, O, O, O, lkI O (by first | omega | rfl), trivial⟩ ⟨by omega, hS⟩ (by omega)
    ·try simp only [SB] at hc5
     have hk4 : k = 4 := by omega
     rw [hk4] at hS
     refine wc_exit<|q_then_exit<|q_then_exit<|q_block_hit<|q_block_norm<|wt<|wc_region<|mv O O O<|addi (by omega) (by omega) O O O O<|asg O O O ?_
     refine again_q (m + 1) ⟨O, O, O, O, lkI O (by first | omega | rfl), trivial⟩ ⟨by omega, (by rw [wd_1 hi4 h0]; exact hS.tl)⟩ (by omega)
 ·try simp only [SB] at hc1
  refine wc_exit<|q_then_exit<|q_then_exit<|q_block_hit<|wt<|rg<|la 0 ag213 hS O O O O (BV_size _)<|sa 2 ag213 hS O O O (BV_one _) O (BV_size _) (BV_size _) fun w hS =>wt<|wc_ret<|fin1 (v := .agg (BV (wdS key m))) O ⟨_, O, lv_a ag213 (hS.get 2 O) (BV_size _)⟩ ?_
  refine ⟨?_, hS.drop⟩
  have hk5 : m = 44 := by omega
  rw [hk5]
theorem sp_mooringref05_Expand (key : V8 16) (w0 : World) : Calls Tryz.prog 87 #[.agg (BV key)] w0 (Ret w0 (.agg (BV (expand key)))) := by
 refine enter (args := [.agg (BV key)]) Tryz.func87 O O<|startw fun w hS =>rg<|bxa hS O O O fun b1 w hb1 hS =>ala zr42 hS O O fun b2 w hb2 hS =>wt<|rg<|la 1 ag22 hS O O O O (BV_size _)<|cv cf118 hS O O O O O (sp_mooringref05_Words key _) fun w hS =>ala zr213 hS O O fun b3 w hb3 hS =>sa 0 ag213 hS O O O (BV_one _) O (BV_size _) (BV_size _) fun w hS =>wt ?_
 refine rg<|ala zr42 hS O O fun b4 w hb4 hS =>wt<|wc_seq<|rg<|asg O O O<|wt<|wc_block ?_
 refine wc_loop (σ := Nat) (fun k =>[(2, Ptr b2 0), (3, Ptr b3 0), (4, Ptr b4 0), (5, I ((k : Int)))])
  (fun k w => (k ≤ 176) ∧ St w0 [] [(b4, .cells (BV (fill8 176 (gv (wdS key 44)) (Vector.replicate 176 0) k)) 42), (b3, .cells (BV (wdS key 44)) 213), (b2, .cells (BV (Vector.replicate 176 0)) 42), (b1, .cells (BV key) 22)] w) (fun k => 176 - k) 0 ⟨rfl, rfl, rfl, rfl, trivial⟩ ⟨by omega, (by simp only [Nat.zero_mul, Nat.add_zero, fill8_0, fill32_0]; exact hS)⟩ ?_
 rintro k w ⟨hk, hS⟩
 refine wc_seq<|rg<|mv O O O<|lss O O O O<|wt ?_
 refine wc_if O (fun hc1 =>?_) (fun hc1 =>?_)
 ·try simp only [SB] at hc1
  refine wc_skip<|wt<|wc_seq<|wc_block<|wc_draw mo 14 (fun w =>St w0 [] [(b3, .cells (BV (wdS key 44)) 213), (b2, .cells (BV (Vector.replicate 176 0)) 42), (b1, .cells (BV key) 22)] w)<|have hS := hS.drew; jx (hS.sl 4 14) fun jj =>dx 0 O (by kernel_rfl) (fun w hS =>mv O O O rr) jj<|dx 1 O (by kernel_rfl) (fun w hS =>quoi (by omega) (by omega) (by omega) O O O O rr) jj<|dx 2 O (by kernel_rfl) (fun w hS =>mv O O O rr) jj<|dx 3 O (by kernel_rfl) (fun w hS =>remi (by omega) (by omega) O O O O rr) jj<|dx 4 O (by kernel_rfl) (fun w hS =>mv O O O rr) jj<|dx 5 O (by kernel_rfl) (fun w hS =>quoi (by omega) (by omega) (by omega) O O O O rr) jj ?_
  refine dx 6 O (by kernel_rfl) (fun w hS =>mv O O O rr) jj<|dx 7 O (by kernel_rfl) (fun w hS =>remi (by omega) (by omega) O O O O rr) jj<|dx 8 O (by kernel_rfl) (fun w hS =>ian (k / 4) ((k / 4) * 4) un213 sz205 O O O O (by omega) (by omega) (by omega) rr) jj<|dx 9 O (by kernel_rfl) (fun w hS =>ian (k % 4) ((k / 4) * 4 + (k % 4)) un205 sz5 O O O O (by omega) (by omega) (by omega) rr) jj<|dx 10 O (by kernel_rfl) (fun w hS =>lo 0 sc5 hS O O O O (BV_get _ ((k / 4) * 4 + (k % 4)) (by omega)) rr) jj<|dx 11 O (by kernel_rfl) (fun w hS =>ian (k / 16) ((k / 16) * 16) un42 sz22 O O O O (by omega) (by omega) (by omega) rr) jj<|dx 12 O (by kernel_rfl) (fun w hS =>ian (k % 16) ((k / 16) * 16 + (k % 16)) un22 sz5 O O O O (by omega) (by omega) (by omega) rr) jj ?_
  refine dl 13 O (by kernel_rfl)<|st (cs' := BV (fill8 176 (gv (wdS key 44)) (Vector.replicate 176 0) (k + 1))) 0 sz5 hS O O O O O O (by rw [BV_size]; omega) (by rw [BV_set, show k / 16 * 16 + k % 16 = k by omega, show k / 4 * 4 + k % 4 = k by omega]; exact congrArg BV (fill8_succ (gv (wdS key 44)) _ k)) fun w hS =>lx (hS.sl 4 14) fun jj =>de (by kernel_rfl)<|q_block_norm<|wt<|wc_region<|mv O O O<|addi (by omega) (by omega) O O O O<|asg O O O ?_
  refine again_q (k + 1) ⟨O, O, O, lkI O (by first | omega | rfl), trivial⟩ ⟨by omega, hS⟩ (by omega)
 ·try simp only [SB] at hc1
  refine wc_exit<|q_then_exit<|q_then_exit<|q_block_hit<|wt<|rg<|la 0 ag42 hS O O O O (BV_size _)<|sa 2 ag42 hS O O O (BV_one _) O (BV_size _) (BV_size _) fun w hS =>wt<|wc_ret<|fin1 (v := .agg (BV (fill8 176 (gv (wdS key 44)) (Vector.replicate 176 0) k))) O ⟨_, O, lv_a ag42 (hS.get 2 O) (BV_size _)⟩ ?_
  refine ⟨?_, hS.drop⟩
  have hk5 : k = 176 := by omega
  rw [hk5, fill8_n, ofFn_gv, wd_expand]
theorem sp_mooringref06_Prepare (key : V8 16) (w0 : World) : Calls Tryz.prog 47 #[.agg (BV key)] w0 (Ret w0 (.agg (BV (expand key) ++ BV sboxV))) := by
 refine enter (args := [.agg (BV key)]) Tryz.func47 O O<|startw fun w hS =>rg<|bxa hS O O O fun b1 w hb1 hS =>ala zr45 hS O O fun b2 w hb2 hS =>wt<|rg<|la 1 ag22 hS O O O O (BV_size _)<|cv cf87 hS O O O O O (sp_mooringref05_Expand key _) fun w hS =>cv cf88 hS O O O O O (sp_mooringref04_Table _) fun w hS =>bd (cs := BV (expand key) ++ BV sboxV) O O O ((bu45 _).trans (fill_w (off := 0) (size := 176) O (BV_size _) (le_sz (a := 432) (cat_size (a := 176) (b := 256) (BV_size _) (BV_size _)) (by omega)) (cat_pl (a := 176) (BV_size _) (ple (BV_size _) (by omega)) (put_all (BV_size _) (BV_size _)))<|fill_w (off := 176) (size := 256) O (BV_size _) (le_sz (a := 432) (cat_size (a := 176) (b := 256) (BV_size _) (BV_size _)) (by omega)) (cat_pr (a := 176) (o' := 0) (BV_size _) (by omega) (ple2 (BV_size _) (BV_size _) (by omega)) (put_all (BV_size _) (BV_size _)))<|O))<|sa 0 ag45 hS O O O (cat_one (BV_one _) (BV_one _)) O (cat_size (a := 176) (b := 256) (BV_size _) (BV_size _)) (cat_size (a := 176) (b := 256) (BV_size _) (BV_size _)) fun w hS =>?_
 refine wt<|wc_ret<|fin1 (v := .agg (BV (expand key) ++ BV sboxV)) O ⟨_, O, lv_a ag45 (hS.get 0 O) (cat_size (a := 176) (b := 256) (BV_size _) (BV_size _))⟩ ?_
 exact ⟨rfl, hS.drop⟩
theorem sp_mooringref18_New (x : UInt64) (w0 : World) : Calls Tryz.prog 48 #[U64 x] w0 (Ret w0 (.agg #[U64 (mnU x 9223372036854775807), U64 0, .bool false])) := by
 refine enter (args := [U64 x]) Tryz.func48 O O<|startw fun w hS =>rg<|ala zr47 hS O O fun b2 w hb2 hS =>wt<|wc_seq<|rg<|mv O O O<|gtr O O O O<|wt ?_
 refine wc_if O (fun hc1 =>?_) (fun hc1 =>?_)
 ·try simp only [SB] at hc1
  refine wc_region<|asg O O O<|wt<|rg<|mv O O O<|bd (cs := #[U64 (9223372036854775807), U64 (0), .bool (false)]) O O O (by kernel_rfl)<|sa 0 ag47 hS O O O (by kernel_rfl) O O O fun w hS =>wt<|wc_ret<|fin1 (v := .agg (#[U64 (9223372036854775807), U64 (0), .bool (false)])) O ⟨_, O, lv_a ag47 (hS.get 0 O) O⟩ ?_
  refine ⟨?_, hS.drop⟩
  first | (rw [mnU_gt (by omega)]) | (rw [mnU_le (by omega)])
 ·try simp only [SB] at hc1
  refine wc_skip<|wt<|rg<|mv O O O<|bd (cs := #[U64 (x), U64 (0), .bool (false)]) O O O (by kernel_rfl)<|sa 0 ag47 hS O O O (by kernel_rfl) O O O fun w hS =>wt<|wc_ret<|fin1 (v := .agg (#[U64 (x), U64 (0), .bool (false)])) O ⟨_, O, lv_a ag47 (hS.get 0 O) O⟩ ?_
  refine ⟨?_, hS.drop⟩
  first | (rw [mnU_gt (by omega)]) | (rw [mnU_le (by omega)])
theorem sp_mooringref21_Right (s : List UInt8) (w0 : World) (hN : s.length ≤ 1000000000) : Calls Tryz.prog 63 #[Str s] w0 (Ret w0 (.bool (okA s))) := by
 refine enter (args := [Str s]) Tryz.func63 O O<|startw fun w hS =>rg<|asg O O O<|wt<|wc_seq<|rg<|asg O O O<|wt<|wc_block ?_
 refine wc_loop (σ := Nat) (fun k =>[(0, Str s), (3, I ((k : Int)))])
  (fun k w => (k ≤ s.length ∧ ∀ j, j < k → okB (gl s j) = true) ∧ St w0 [] [] w) (fun k => s.length - k) 0 ⟨rfl, rfl, trivial⟩ ⟨⟨by omega, fun j hj => by omega⟩, hS⟩ ?_
 rintro k w ⟨⟨hk, hz⟩, hS⟩
 refine wc_seq<|rg<|mv O O O<|mv O O O<|lnst un9 O O O<|lss O O O O<|wt ?_
 refine wc_if O (fun hc1 =>?_) (fun hc1 =>?_)
 ·try simp only [SB] at hc1
  refine wc_skip<|wt<|wc_seq<|wc_block<|rg<|mv O O O<|mv O O O<|ixs k un9 O O O O (by omega) (by omega)<|asg O O O<|wt<|rg<|mv O O O ?_
  refine geq O O O O<|mv O O O ?_
  refine spl 17 O (fun hb1 =>?_) (fun hb1 =>?_)
  ·try simp only [SB] at hb1
   refine mv O O O<|leq O O O O<|pk_t O O O O<|mv O O O ?_
   refine spl 21 O (fun hb2 =>?_) (fun hb2 =>?_)
   ·try simp only [SB] at hb2
    refine no O O<|no O O<|no O O<|no O O<|no O O<|no O O<|pk_t O O O O<|asg O O O<|wt<|rg<|mv O O O<|notb O O O ?_
    refine mv O O O<|no O O<|no O O<|no O O<|no O O<|no O O<|no O O<|pk_f O O O O<|mv O O O<|no O O<|no O O<|pk_f O O O O ?_
    refine mv O O O<|no O O<|no O O<|pk_f O O O O<|mv O O O<|no O O<|no O O<|pk_f O O O O<|wt<|wc_if_f O<|wc_skip<|q_block_norm ?_
    refine wt<|wc_region<|mv O O O<|addi (by omega) (by omega) O O O O<|asg O O O ?_
    have hok : okB (gl s k) = true := by simp only [okB, okR, decide_eq_true_eq]; omega
    refine again_q (k + 1) ⟨O, lkI O (by first | omega | rfl), trivial⟩ ⟨⟨by omega, fun j hj =>by by_cases e : j = k; (subst e; exact hok); exact hz j (by omega)⟩, hS⟩ (by omega)
   ·try simp only [SB] at hb2
    refine mv O O O<|geq O O O O<|mv O O O ?_
    refine spl 24 O (fun hb3 =>?_) (fun hb3 =>?_)
    ·try simp only [SB] at hb3
     refine mv O O O<|leq O O O O<|pk_t O O O O<|pk_f O O O O<|asg O O O<|wt<|rg<|mv O O O<|notb O O O<|mv O O O ?_
     refine spl 31 O (fun hb4 =>?_) (fun hb4 =>?_)
     ·try simp only [SB] at hb4
      refine mv O O O<|lss O O O O<|mv O O O ?_
      refine spl 34 O (fun hb5 =>?_) (fun hb5 =>?_)
      ·try simp only [SB] at hb5
       exfalso; omega
      ·try simp only [SB] at hb5
       refine mv O O O<|gtr O O O O<|pk_f O O O O<|pk_t O O O O<|mv O O O ?_
       refine spl 39 O (fun hb6 =>?_) (fun hb6 =>?_)
       ·try simp only [SB] at hb6
        refine mv O O O<|nei O O O O<|pk_t O O O O<|mv O O O ?_
        refine spl 43 O (fun hb7 =>?_) (fun hb7 =>?_)
        ·try simp only [SB] at hb7
         refine mv O O O<|nei O O O O<|pk_t O O O O<|mv O O O ?_
         refine spl 47 O (fun hb8 =>?_) (fun hb8 =>?_)
         ·try simp only [SB] at hb8
          refine mv O O O<|nei O O O O<|pk_t O O O O<|wt ?_
          refine wc_if O (fun hc2 =>?_) (fun hc2 =>?_)
          ·try simp only [SB] at hc2
           refine rg<|asg O O O<|wt<|wc_ret<|q_block_ret<|q_then_ret<|q_then_ret<|q_block_ret<|q_then_ret<|fin1 (v := .bool false) O O ?_
           refine ⟨?_, hS.drop⟩
           rw [okA_bad (k := k) (by omega) (by simp only [okB, okR, decide_eq_false_iff_not]; omega)]
          ·try simp only [SB] at hc2
           exfalso; omega
         ·try simp only [SB] at hb8
          exfalso; omega
        ·try simp only [SB] at hb7
         exfalso; omega
       ·try simp only [SB] at hb6
        exfalso; omega
     ·try simp only [SB] at hb4
      refine no O O<|no O O<|no O O<|no O O<|no O O<|no O O<|pk_f O O O O<|mv O O O<|no O O<|no O O<|pk_f O O O O<|mv O O O ?_
      refine no O O<|no O O<|pk_f O O O O<|mv O O O<|no O O<|no O O<|pk_f O O O O<|wt<|wc_if_f O<|wc_skip<|q_block_norm<|wt ?_
      refine wc_region<|mv O O O<|addi (by omega) (by omega) O O O O<|asg O O O ?_
      have hok : okB (gl s k) = true := by simp only [okB, okR, decide_eq_true_eq]; omega
      refine again_q (k + 1) ⟨O, lkI O (by first | omega | rfl), trivial⟩ ⟨⟨by omega, fun j hj =>by by_cases e : j = k; (subst e; exact hok); exact hz j (by omega)⟩, hS⟩ (by omega)
    ·try simp only [SB] at hb3
     exfalso; omega
  ·try simp only [SB] at hb1
   refine no O O<|no O O<|pk_f O O O O<|mv O O O<|mv O O O<|geq O O O O<|mv O O O ?_
   refine spl 24 O (fun hb9 =>?_) (fun hb9 =>?_)
   ·try simp only [SB] at hb9
    refine mv O O O<|leq O O O O<|pk_t O O O O<|pk_f O O O O<|asg O O O<|wt<|rg<|mv O O O<|notb O O O<|mv O O O ?_
    refine spl 31 O (fun hb10 =>?_) (fun hb10 =>?_)
    ·try simp only [SB] at hb10
     refine mv O O O<|lss O O O O<|mv O O O ?_
     refine spl 34 O (fun hb11 =>?_) (fun hb11 =>?_)
     ·try simp only [SB] at hb11
      exfalso; omega
     ·try simp only [SB] at hb11
      refine mv O O O<|gtr O O O O<|pk_f O O O O<|pk_t O O O O<|mv O O O ?_
      refine spl 39 O (fun hb12 =>?_) (fun hb12 =>?_)
      ·try simp only [SB] at hb12
       refine mv O O O<|nei O O O O<|pk_t O O O O<|mv O O O ?_
       refine spl 43 O (fun hb13 =>?_) (fun hb13 =>?_)
       ·try simp only [SB] at hb13
        refine mv O O O<|nei O O O O<|pk_t O O O O<|mv O O O ?_
        refine spl 47 O (fun hb14 =>?_) (fun hb14 =>?_)
        ·try simp only [SB] at hb14
         refine mv O O O<|nei O O O O<|pk_t O O O O<|wt ?_
         refine wc_if O (fun hc3 =>?_) (fun hc3 =>?_)
         ·try simp only [SB] at hc3
          refine rg<|asg O O O<|wt<|wc_ret<|q_block_ret<|q_then_ret<|q_then_ret<|q_block_ret<|q_then_ret<|fin1 (v := .bool false) O O ?_
          refine ⟨?_, hS.drop⟩
          rw [okA_bad (k := k) (by omega) (by simp only [okB, okR, decide_eq_false_iff_not]; omega)]
         ·try simp only [SB] at hc3
          exfalso; omega
        ·try simp only [SB] at hb14
         exfalso; omega
       ·try simp only [SB] at hb13
        exfalso; omega
      ·try simp only [SB] at hb12
       exfalso; omega
    ·try simp only [SB] at hb10
     refine no O O<|no O O<|no O O<|no O O<|no O O<|no O O<|pk_f O O O O<|mv O O O<|no O O<|no O O<|pk_f O O O O<|mv O O O ?_
     refine no O O<|no O O<|pk_f O O O O<|mv O O O<|no O O<|no O O<|pk_f O O O O<|wt<|wc_if_f O<|wc_skip<|q_block_norm<|wt ?_
     refine wc_region<|mv O O O<|addi (by omega) (by omega) O O O O<|asg O O O ?_
     have hok : okB (gl s k) = true := by simp only [okB, okR, decide_eq_true_eq]; omega
     refine again_q (k + 1) ⟨O, lkI O (by first | omega | rfl), trivial⟩ ⟨⟨by omega, fun j hj =>by by_cases e : j = k; (subst e; exact hok); exact hz j (by omega)⟩, hS⟩ (by omega)
   ·try simp only [SB] at hb9
    refine no O O<|no O O<|pk_f O O O O<|pk_f O O O O<|asg O O O<|wt<|rg<|mv O O O<|notb O O O<|mv O O O<|mv O O O<|lss O O O O ?_
    refine mv O O O ?_
    refine spl 34 O (fun hb15 =>?_) (fun hb15 =>?_)
    ·try simp only [SB] at hb15
     refine no O O<|no O O<|pk_t O O O O<|pk_t O O O O<|mv O O O<|mv O O O<|nei O O O O<|pk_t O O O O<|mv O O O ?_
     refine spl 43 O (fun hb16 =>?_) (fun hb16 =>?_)
     ·try simp only [SB] at hb16
      refine mv O O O<|nei O O O O<|pk_t O O O O<|mv O O O ?_
      refine spl 47 O (fun hb17 =>?_) (fun hb17 =>?_)
      ·try simp only [SB] at hb17
       refine mv O O O<|nei O O O O<|pk_t O O O O<|wt ?_
       refine wc_if O (fun hc4 =>?_) (fun hc4 =>?_)
       ·try simp only [SB] at hc4
        refine rg<|asg O O O<|wt<|wc_ret<|q_block_ret<|q_then_ret<|q_then_ret<|q_block_ret<|q_then_ret<|fin1 (v := .bool false) O O ?_
        refine ⟨?_, hS.drop⟩
        rw [okA_bad (k := k) (by omega) (by simp only [okB, okR, decide_eq_false_iff_not]; omega)]
       ·try simp only [SB] at hc4
        refine wc_skip<|q_block_norm<|wt<|wc_region<|mv O O O<|addi (by omega) (by omega) O O O O<|asg O O O ?_
        have hok : okB (gl s k) = true := by simp only [okB, okR, decide_eq_true_eq]; omega
        refine again_q (k + 1) ⟨O, lkI O (by first | omega | rfl), trivial⟩ ⟨⟨by omega, fun j hj =>by by_cases e : j = k; (subst e; exact hok); exact hz j (by omega)⟩, hS⟩ (by omega)
      ·try simp only [SB] at hb17
       exfalso; omega
     ·try simp only [SB] at hb16
      refine no O O<|no O O<|pk_f O O O O<|mv O O O<|no O O<|no O O<|pk_f O O O O<|wt<|wc_if_f O<|wc_skip<|q_block_norm<|wt ?_
      refine wc_region<|mv O O O<|addi (by omega) (by omega) O O O O<|asg O O O ?_
      have hok : okB (gl s k) = true := by simp only [okB, okR, decide_eq_true_eq]; omega
      refine again_q (k + 1) ⟨O, lkI O (by first | omega | rfl), trivial⟩ ⟨⟨by omega, fun j hj =>by by_cases e : j = k; (subst e; exact hok); exact hz j (by omega)⟩, hS⟩ (by omega)
    ·try simp only [SB] at hb15
     refine mv O O O<|gtr O O O O<|pk_f O O O O<|pk_t O O O O<|mv O O O ?_
     refine spl 39 O (fun hb18 =>?_) (fun hb18 =>?_)
     ·try simp only [SB] at hb18
      refine mv O O O<|nei O O O O<|pk_t O O O O<|mv O O O ?_
      refine spl 43 O (fun hb19 =>?_) (fun hb19 =>?_)
      ·try simp only [SB] at hb19
       refine mv O O O<|nei O O O O<|pk_t O O O O<|mv O O O ?_
       refine spl 47 O (fun hb20 =>?_) (fun hb20 =>?_)
       ·try simp only [SB] at hb20
        refine mv O O O<|nei O O O O<|pk_t O O O O<|wt ?_
        refine wc_if O (fun hc5 =>?_) (fun hc5 =>?_)
        ·try simp only [SB] at hc5
         refine rg<|asg O O O<|wt<|wc_ret<|q_block_ret<|q_then_ret<|q_then_ret<|q_block_ret<|q_then_ret<|fin1 (v := .bool false) O O ?_
         refine ⟨?_, hS.drop⟩
         rw [okA_bad (k := k) (by omega) (by simp only [okB, okR, decide_eq_false_iff_not]; omega)]
        ·try simp only [SB] at hc5
         exfalso; omega
       ·try simp only [SB] at hb20
        refine no O O<|no O O<|pk_f O O O O<|wt<|wc_if_f O<|wc_skip<|q_block_norm<|wt<|wc_region<|mv O O O<|addi (by omega) (by omega) O O O O<|asg O O O ?_
        have hok : okB (gl s k) = true := by simp only [okB, okR, decide_eq_true_eq]; omega
        refine again_q (k + 1) ⟨O, lkI O (by first | omega | rfl), trivial⟩ ⟨⟨by omega, fun j hj =>by by_cases e : j = k; (subst e; exact hok); exact hz j (by omega)⟩, hS⟩ (by omega)
      ·try simp only [SB] at hb19
       exfalso; omega
     ·try simp only [SB] at hb18
      refine no O O<|no O O<|pk_f O O O O<|mv O O O<|no O O<|no O O<|pk_f O O O O<|mv O O O<|no O O<|no O O<|pk_f O O O O<|wt ?_
      refine wc_if_f O<|wc_skip<|q_block_norm<|wt<|wc_region<|mv O O O<|addi (by omega) (by omega) O O O O<|asg O O O ?_
      have hok : okB (gl s k) = true := by simp only [okB, okR, decide_eq_true_eq]; omega
      refine again_q (k + 1) ⟨O, lkI O (by first | omega | rfl), trivial⟩ ⟨⟨by omega, fun j hj =>by by_cases e : j = k; (subst e; exact hok); exact hz j (by omega)⟩, hS⟩ (by omega)
 ·try simp only [SB] at hc1
  refine wc_exit<|q_then_exit<|q_then_exit<|q_block_hit<|wt<|rg<|mv O O O<|lnst un9 O O O<|geq O O O O<|mv O O O ?_
  refine spl 54 O (fun hb21 =>?_) (fun hb21 =>?_)
  ·try simp only [SB] at hb21
   refine mv O O O<|lnst un9 O O O<|leq O O O O<|pk_t O O O O<|asg O O O<|wt<|wc_ret<|fin1 (v := .bool (decide (((s.length : Nat) : Int) ≤ 100))) O O ?_
   refine ⟨?_, hS.drop⟩
   rw [okA_all rfl (fun j hj => hz j (by omega))]
   congr 2
   first | (rw [decide_eq_false (by omega)]; done) | (congr 1; apply propext; omega)
  ·try simp only [SB] at hb21
   refine no O O<|no O O<|no O O<|pk_f O O O O<|asg O O O<|wt<|wc_ret<|fin1 (v := .bool false) O O ?_
   refine ⟨?_, hS.drop⟩
   rw [okA_all rfl (fun j hj => hz j (by omega))]
   congr 2
   first | (rw [decide_eq_false (by omega)]; done) | (congr 1; apply propext; omega)
theorem sp_mooringref21_First (s : List UInt8) (w0 : World) (hN : s.length ≤ 1000000000) : Calls Tryz.prog 49 #[Str s] w0 (Ret w0 (Str (adA s))) := by
 refine enter (args := [Str s]) Tryz.func49 O O<|startw fun w hS =>rg<|asg O O O<|wt<|wc_seq<|rg<|mv O O O<|cv cf63 hS O O O O O (sp_mooringref21_Right s _ (by omega)) fun w hS =>wt ?_
 refine wc_if O (fun hc1 =>?_) (fun hc1 =>?_)
 ·try simp only [SB] at hc1
  refine rg<|mv O O O<|asg O O O<|wt<|wc_ret<|q_then_ret<|fin1 (v := Str s) O O ?_
  refine ⟨?_, hS.drop⟩
  first | (rw [adA, if_pos hc1]) | (rw [adA, if_neg (by simp [hc1])])
 ·try simp only [SB] at hc1
  refine wc_skip<|wt<|rg<|asg O O O<|wt<|wc_ret<|fin1 (v := Str ([])) O O ?_
  refine ⟨?_, hS.drop⟩
  first | (rw [adA, if_pos hc1]) | (rw [adA, if_neg (by simp [hc1])])
theorem sp_mooringref22_New (key : V8 16) (d : Nat) (ad : List UInt8) (nx : UInt64) (d_ : Int) (w0 : World) (hd_ : d_ = (d : Int)) (hN : ad.length ≤ 1000000000) : Calls Tryz.prog 13 #[.agg (BV key), I d_, Str ad, U64 nx] w0 (Ret w0 (.agg (BV (expand (refN key d ad nx).key) ++ (BV sboxV ++ #[I ((((refN key d ad nx).dir : Nat) : Int)), U64 ((refN key d ad nx).fs), U64 ((refN key d ad nx).gv), .bool (false), (.slice none 0 0), I ((((refN key d ad nx).rf : Nat) : Int)), .bool ((refN key d ad nx).kp.isSome), I ((((kpS (refN key d ad nx).kp) : Nat) : Int)), U64 (kpT (refN key d ad nx).kp), (.slice none 0 0), Str ((refN key d ad nx).ad), I ((((refN key d ad nx).mv : Nat) : Int)), .bool ((refN key d ad nx).cz)])))) := by
 subst hd_
 refine enter (args := [.agg (BV key), I (d : Int), Str ad, U64 nx]) Tryz.func13 O O<|startw fun w hS =>rg<|bxa hS O O O fun b4 w hb4 hS =>ala zr53 hS O O fun b8 w hb8 hS =>wt<|rg<|la 1 ag22 hS O O O O (BV_size _)<|cv cf47 hS O O O O O (sp_mooringref06_Prepare key _) fun w hS =>mv O O O<|mv O O O<|cv cf48 hS O O O O O (sp_mooringref18_New nx _) fun w hS =>?_
 refine mv O O O<|cv cf49 hS O O O O O (sp_mooringref21_First ad _ (by omega)) fun w hS =>bd (cs := BV (expand key) ++ (BV sboxV ++ #[I ((d : Int)), U64 (mnU nx 9223372036854775807), U64 (0), .bool (false), (.slice none 0 0), I (0), .bool (false), I (0), U64 (0), (.slice none 0 0), (Str (adA ad)), I (0), .bool (false)])) O O O ((bu53 _).trans (fill_w (off := 0) (size := 432) O (cat_size (a := 176) (b := 256) (BV_size _) (BV_size _)) (le_sz (a := 445) (cat_size (a := 176) (b := 269) (BV_size _) (cat_size (a := 256) (b := 13) (BV_size _) O)) (by omega)) (cat_p2 (BV_size _) (BV_size _) (BV_size _) (BV_size _))<|fill_1 (off := 432) O O (le_sz (a := 445) (cat_size (a := 176) (b := 269) (BV_size _) (cat_size (a := 256) (b := 13) (BV_size _) O)) (by omega)) (cat_sr (a := 176) (o' := 256) (BV_size _) (by omega) (cat_sr (a := 256) (o' := 0) (BV_size _) (by omega) O))<|fill_w (off := 433) (size := 3) O O (le_sz (a := 445) (cat_size (a := 176) (b := 269) (BV_size _) (cat_size (a := 256) (b := 13) (BV_size _) O)) (by omega)) (cat_pr (a := 176) (o' := 257) (BV_size _) (by omega) (ple2 (m := 3) (a := 269) O (cat_size (a := 256) (b := 13) (BV_size _) O) (by omega)) (cat_pr (a := 256) (o' := 1) (BV_size _) (by omega) (ple2 (m := 3) (a := 13) O O (by omega)) O))<|fill_1 (off := 442) O O (le_sz (a := 445) (cat_size (a := 176) (b := 269) (BV_size _) (cat_size (a := 256) (b := 13) (BV_size _) O)) (by omega)) (cat_sr (a := 176) (o' := 266) (BV_size _) (by omega) (cat_sr (a := 256) (o' := 10) (BV_size _) (by omega) O))<|O))<|sa 0 ag53 hS O O O (cat_one (BV_one _) (cat_one (BV_one _) (by kernel_rfl))) O (cat_size (a := 176) (b := 269) (BV_size _) (cat_size (a := 256) (b := 13) (BV_size _) O)) (cat_size (a := 176) (b := 269) (BV_size _) (cat_size (a := 256) (b := 13) (BV_size _) O)) fun w hS =>wt<|wc_ret<|fin1 (v := .agg (BV (expand key) ++ (BV sboxV ++ #[I ((d : Int)), U64 (mnU nx 9223372036854775807), U64 (0), .bool (false), (.slice none 0 0), I (0), .bool (false), I (0), U64 (0), (.slice none 0 0), (Str (adA ad)), I (0), .bool (false)]))) O ⟨_, O, lv_a ag53 (hS.get 0 O) (cat_size (a := 176) (b := 269) (BV_size _) (cat_size (a := 256) (b := 13) (BV_size _) O))⟩ ?_
 exact ⟨rfl, hS.drop⟩
theorem sp_bits_Bytes (x : UInt64) (n : Nat) (n_ : Int) (w0 : World) (hn_ : n_ = (n : Int)) (hn : n ≤ 8) : Calls Tryz.prog 84 #[U64 x, I n_] w0 (RetS w0 (fun v L => ∃ b, v = .slice (some ⟨b, 0, none⟩) n n ∧ L = [(b, .cells (LB (bytesL x n)) 5)])) := by
 subst hn_
 refine enter (args := [U64 x, I (n : Int)]) Tryz.func84 O O<|startw fun w hS =>rg<|asg O O O<|wt<|rg<|mv O O O<|maxin n (by omega) O O O O<|minin n (by omega) O O O O<|asg O O O<|wt<|rg ?_
 refine mv O O O<|mks n sl30 hS O O O O (by omega) (by omega) (by omega) (by omega) (madeLB _) fun b11 w hb11 hS =>asg O O O<|wt<|wc_seq<|rg<|mv O O O<|mv O O O<|wt<|wc_block ?_
 refine wc_loop (σ := Nat) (fun k =>[(0, U64 x), (1, I (((n : Nat) : Int))), (4, (.slice none 0 0)), (5, .slice (some ⟨b11, 0, none⟩) n n), (12, I (((n : Nat) : Int))), (13, I ((k : Int)))])
  (fun k w => (k ≤ n) ∧ St w0 [] [(b11, .cells (LB (flL n (bytf x n) k)) 5)] w) (fun k => n - k) 0 ⟨rfl, rfl, rfl, rfl, rfl, rfl, trivial⟩ ⟨by omega, (by rw [← flL_0]; exact hS)⟩ ?_
 rintro k w ⟨hk, hS⟩
 refine rg<|lss O O O O<|wt<|wc_seq ?_
 refine wc_if O (fun hc1 =>?_) (fun hc1 =>?_)
 ·try simp only [SB] at hc1
  refine wc_skip<|wt<|wc_seq<|wc_block<|rg<|mv O O O<|asg O O O<|wt<|wc_region<|mv O O O<|mv O O O<|mv O O O ?_
  refine mv O O O<|subi (by omega) (by omega) O O O O<|mv O O O<|subi (by omega) (by omega) O O O O<|muli (by omega) (by omega) O O O O<|shrn64 (8 * ((n - 1) - k)) (by omega) O O O O<|cvu8 un5 ⟨_, un24⟩ O O O<|isn k un30 sz5 O O O O (by omega) (by omega)<|st (cs' := LB (flL n (bytf x n) (k + 1))) 0 sz5 hS O O O O O O (by rw [LB_size, flL_len]; omega) (by rw [LB_set]; exact congrArg LB (flL_succ _ _ k)) fun w hS =>q_block_norm<|wt<|wc_region ?_
  refine addi (by omega) (by omega) O O O O<|mv O O O ?_
  refine again_q (k + 1) ⟨O, O, O, O, O, lkI O (by first | omega | rfl), trivial⟩ ⟨by omega, hS⟩ (by omega)
 ·try simp only [SB] at hc1
  refine wc_exit<|q_then_exit<|q_then_exit<|q_block_hit<|wt<|rg<|mv O O O<|asg O O O<|wt<|wc_ret<|fin1 (v := .slice (some ⟨b11, 0, none⟩) n n) O O ?_
  have hk4 : k = n := by omega
  refine ⟨_, _, O, ⟨b11, O, O⟩, ?_⟩
  rw [hk4, flL_n] at hS
  exact hS.sublist (.cons_cons _ (List.nil_sublist _))
theorem sp_nonce_Head (d : Nat) (s : UInt64) (d_ : Int) (w0 : World) (hd_ : d_ = (d : Int)) (hd : d ≤ 1) (hs : s.toNat ≤ 9223372036854775807) : Calls Tryz.prog 82 #[I d_, U64 s] w0 (Ret w0 (.tuple #[.agg (BV (headV d s)), .bool true])) := by
 subst hd_
 refine enter (args := [I (d : Int), U64 s]) Tryz.func82 O O<|startw fun w hS =>rg<|ala zr166 hS O O fun b4 w hb4 hS =>asg O O O<|wt<|wc_seq<|rg<|mv O O O<|andni (D := 2) 1 (by decide) (by decide) (by decide) (by omega) (by omega) O O O O<|nei O O O O<|mv O O O ?_
 refine spl 9 O (fun hb1 =>?_) (fun hb1 =>?_)
 ·try simp only [SB] at hb1
  exfalso; omega
 ·try simp only [SB] at hb1
  refine mv O O O<|gtr O O O O<|pk_f O O O O<|wt ?_
  refine wc_if O (fun hc1 =>?_) (fun hc1 =>?_)
  ·try simp only [SB] at hc1
   exfalso; omega
  ·try simp only [SB] at hc1
   refine wc_skip<|wt<|rg<|mv O O O<|cvu64 un24 ⟨_, un3⟩ O O O<|shln64 63 (by omega) O O O O<|mv O O O<|or64 O O O O<|cs cf84 hS O O O O O (sp_bits_Bytes (((shl64 (toU64 ((d : Int))) 63) ||| s)) 8 _ _ (by omega) (by omega)) ?_
   rintro _ _ w ⟨q19, rfl, rfl⟩ hS
   refine s2b un166 O O O (by omega) ((Cel.lb (l := bytesL ((shl64 (toU64 ((d : Int))) 63) ||| s) 8) (hS.get 0 O)).some8 (j := 0) (by first | omega | (simp; omega) | simp))<|ld O O O (lv_celj 0 ag166 (Cel.lb (l := bytesL ((shl64 (toU64 ((d : Int))) 63) ||| s) 8) (hS.get 0 O)) (by first | omega | (simp; done) | (simp; omega)) (by omega))<|sa 1 ag166 hS O O O (BV_one _) O (BV_size _) (BV_size _) fun w hS =>asg O O O<|wt<|wc_ret<|fin2 (v := .agg (BV (ofl 8 (bytesL ((shl64 (toU64 ((d : Int))) 63) ||| s) 8)))) (u := .bool true) O ⟨_, O, lv_a ag166 (hS.get 1 O) (BV_size _)⟩ O ?_
   exact ⟨rfl, hS.drop⟩
theorem sp_nonce_Whole (head : V8 8) (w0 : World) : Calls Tryz.prog 86 #[.agg (BV head)] w0 (Ret w0 (.agg (BV (nonceV head)))) := by
 refine enter (args := [.agg (BV head)]) Tryz.func86 O O<|startw fun w hS =>rg<|bxa hS O O O fun b1 w hb1 hS =>ala zr173 hS O O fun b2 w hb2 hS =>wt<|rg<|ala zr205 hS O O fun b3 w hb3 hS =>wt<|rd mo 5 (fun w =>St w0 [] [(b1, .cells (BV head) 166)] w)<|have hS := hS.drew; jx (hS.sl 3 4) fun jj =>dx 0 O (by kernel_rfl) (fun w hS =>a_hm 4 4 un205 ⟨_, sz5⟩ O O O O O (by omega) (by omega) (by omega) (by omega) (by omega) rr) jj ?_
 refine dx 1 O (by kernel_rfl) (fun w hS =>a_all un166 ⟨_, sz5⟩ O O O rr) jj ?_
 refine dl 2 O (by kernel_rfl)<|app (A := [(b2, .cells (BV (Vector.replicate 12 0)) 173), (b1, .cells (BV head) 166)]) (X := [(b3, .cells (BV (Vector.replicate 4 0)) 205)]) (R := []) sl30 (Own.blk (BV_size _) (by decide)) ((hS.napp).toend 0 O) O O O O (src8 un30 _ (Cel.bv (hS.get 2 O)) Vector.length_toList) (by omega) (by omega) fun a6 c6 X6 w hO6 hS =>?_
 rw [BV_toList, c8_app] at hO6
 refine lx (hS.sl 2 2) fun jj =>?_
 refine dl 3 O (by kernel_rfl)<|s2b un173 O O O (by omega) ((hO6.cel hS (fun p hp =>by simp [hp])).some8 (j := 0) (by first | omega | (simp; omega) | simp))<|lx (hS.sl 2 2) fun jj =>?_
 refine dl 4 O (by kernel_rfl)<|ld O O O (lv_celj 0 ag173 (hO6.cel hS (fun p hp =>by simp [hp])) (by first | omega | (simp; done) | (simp; omega)) (by omega))<|lx (hS.sl 2 2) fun jj =>?_
 refine dl 5 O (by kernel_rfl)<|sa 0 ag173 hS O O O (BV_one _) O (BV_size _) (BV_size _) fun w hS =>ly O<|de (by kernel_rfl)<|wt<|wc_ret<|fin1 (v := .agg (BV (ofl 12 (((Vector.replicate 4 0).toList) ++ head.toList)))) O ⟨_, O, lv_a ag173 (hS.get 0 O) (BV_size _)⟩ ?_
 exact ⟨rfl, hS.drop⟩
theorem sp_packet_check (d : Int) (s : UInt64) (t e : UInt16) (a : Option Addr) (n cap : Nat) (w0 : World) : Calls Tryz.prog 81 #[.agg #[I d, U64 s, U16 t, U16 e, .slice a n cap]] w0 (Ret w0 (errV 33 (chk d s n))) := by
 refine enter (args := [.agg #[I d, U64 s, U16 t, U16 e, .slice a n cap]]) Tryz.func81 O O<|startw fun w hS =>rg<|bxa hS O O O fun b1 w hb1 hS =>asg O O O<|wt<|wc_seq<|wc_block<|rg<|fan 0 0 un100 O sz3 (by decide) O O O O (by omega)<|lo 0 sc3 hS O O O O O<|nei O O O O ?_
 refine mv O O O ?_
 refine spl 7 O (fun hb1 =>?_) (fun hb1 =>?_)
 ·try simp only [SB] at hb1
  refine fan 0 0 un100 O sz3 (by decide) O O O O (by omega)<|lo 0 sc3 hS O O O O O<|nei O O O O<|pk_t O O O O<|asg O O O<|wt ?_
  refine wc_if O (fun hc1 =>?_) (fun hc1 =>?_)
  ·try simp only [SB] at hc1
   refine rg<|mki cc33 O O O<|asg O O O<|wt<|wc_ret<|q_block_ret<|q_then_ret<|fin1 (v := (.iface 33 (I 8))) O O ?_
   refine ⟨?_, hS.drop⟩
   have hk : chk d s n = 8 := by simp only [chk]; (repeat' split) <;> omega
   rw [hk]; rfl
  ·try simp only [SB] at hc1
   refine rg<|fan 1 1 un100 O sz24 (by decide) O O O O (by omega)<|lo 0 sc24 hS O O O O O<|gtr O O O O<|asg O O O<|wt ?_
   refine wc_if O (fun hc2 =>?_) (fun hc2 =>?_)
   ·try simp only [SB] at hc2
    refine rg<|mki cc33 O O O<|asg O O O<|wt<|wc_ret<|q_block_ret<|q_then_ret<|fin1 (v := (.iface 33 (I 5))) O O ?_
    refine ⟨?_, hS.drop⟩
    have hk : chk d s n = 5 := by simp only [chk]; (repeat' split) <;> omega
    rw [hk]; rfl
   ·try simp only [SB] at hc2
    refine rg<|fan 4 4 un100 O sz30 (by decide) O O O O (by omega)<|lo 0 sc30 hS O O O O O<|lens un30 O O O<|gtr O O O O<|asg O O O<|wt ?_
    refine wc_if O (fun hc3 =>?_) (fun hc3 =>?_)
    ·try simp only [SB] at hc3
     refine rg<|mki cc33 O O O<|asg O O O<|wt<|wc_ret<|q_block_ret<|q_then_ret<|fin1 (v := (.iface 33 (I 2))) O O ?_
     refine ⟨?_, hS.drop⟩
     have hk : chk d s n = 2 := by simp only [chk]; (repeat' split) <;> omega
     rw [hk]; rfl
    ·try simp only [SB] at hc3
     refine wc_skip<|q_block_norm<|wt<|rg<|asg O O O<|wt<|wc_ret<|fin1 (v := .nilIface) O O ?_
     refine ⟨?_, hS.drop⟩
     have hk : chk d s n = 0 := by simp only [chk]; (repeat' split) <;> omega
     rw [hk]; rfl
 ·try simp only [SB] at hb1
  refine no O O<|no O O<|no O O<|pk_f O O O O<|asg O O O<|wt<|wc_if_f O<|rg<|fan 1 1 un100 O sz24 (by decide) O O O O (by omega)<|lo 0 sc24 hS O O O O O<|gtr O O O O<|asg O O O ?_
  refine wt ?_
  refine wc_if O (fun hc4 =>?_) (fun hc4 =>?_)
  ·try simp only [SB] at hc4
   refine rg<|mki cc33 O O O<|asg O O O<|wt<|wc_ret<|q_block_ret<|q_then_ret<|fin1 (v := (.iface 33 (I 5))) O O ?_
   refine ⟨?_, hS.drop⟩
   have hk : chk d s n = 5 := by simp only [chk]; (repeat' split) <;> omega
   rw [hk]; rfl
  ·try simp only [SB] at hc4
   refine rg<|fan 4 4 un100 O sz30 (by decide) O O O O (by omega)<|lo 0 sc30 hS O O O O O<|lens un30 O O O<|gtr O O O O<|asg O O O<|wt ?_
   refine wc_if O (fun hc5 =>?_) (fun hc5 =>?_)
   ·try simp only [SB] at hc5
    refine rg<|mki cc33 O O O<|asg O O O<|wt<|wc_ret<|q_block_ret<|q_then_ret<|fin1 (v := (.iface 33 (I 2))) O O ?_
    refine ⟨?_, hS.drop⟩
    have hk : chk d s n = 2 := by simp only [chk]; (repeat' split) <;> omega
    rw [hk]; rfl
   ·try simp only [SB] at hc5
    refine wc_skip<|q_block_norm<|wt<|rg<|asg O O O<|wt<|wc_ret<|fin1 (v := .nilIface) O O ?_
    refine ⟨?_, hS.drop⟩
    have hk : chk d s n = 0 := by simp only [chk]; (repeat' split) <;> omega
    rw [hk]; rfl
theorem sp_block_Xor (a b : V8 16) (w0 : World) : Calls Tryz.prog 143 #[.agg (BV a), .agg (BV b)] w0 (Ret w0 (.agg (BV (xorV a b)))) := by
 refine enter (args := [.agg (BV a), .agg (BV b)]) Tryz.func143 O O<|startw fun w hS =>rg<|bxa hS O O O fun b2 w hb2 hS =>bxa hS O O O fun b3 w hb3 hS =>ala zr22 hS O O fun b4 w hb4 hS =>wt<|wc_seq<|rg<|mv O O O<|wt<|wc_block ?_
 refine wc_loop (σ := Nat) (fun k =>[(2, Ptr b2 0), (3, Ptr b3 0), (4, Ptr b4 0), (6, I ((k : Int)))])
  (fun k w => (k ≤ 16) ∧ St w0 [] [(b4, .cells (BV (Vector.replicate 16 0)) 22), (b3, .cells (BV b) 22), (b2, .cells (BV (fill8 16 (fun i => gv a i ^^^ gv b i) a k)) 22)] w) (fun k => 16 - k) 0 ⟨rfl, rfl, rfl, rfl, trivial⟩ ⟨by omega, (by simp only [Nat.zero_mul, Nat.add_zero, fill8_0, fill32_0]; exact hS)⟩ ?_
 rintro k w ⟨hk, hS⟩
 refine rg<|lss O O O O<|wt<|wc_seq ?_
 refine wc_if O (fun hc1 =>?_) (fun hc1 =>?_)
 ·try simp only [SB] at hc1
  refine wc_skip<|wt<|wc_seq<|wc_block<|rg<|mv O O O<|asg O O O<|wt<|wc_draw mo 7 (fun w =>St w0 [] [(b4, .cells (BV (Vector.replicate 16 0)) 22), (b3, .cells (BV b) 22), (b2, .cells (BV (fill8 16 (fun i =>gv a i ^^^ gv b i) a k)) 22)] w)<|have hS := hS.drew; jx hS fun jj =>dx 0 O (by kernel_rfl) (fun w hS =>mv O O O rr) jj<|dx 1 O (by kernel_rfl) (fun w hS =>ian k k un22 sz5 O O O O (by omega) (by omega) (by omega) rr) jj ?_
  refine dx 2 O (by kernel_rfl) (fun w hS =>lo 2 sc5 hS O O O O (BV_get _ k (by omega)) rr) jj<|dx 3 O (by kernel_rfl) (fun w hS =>mv O O O rr) jj<|dx 4 O (by kernel_rfl) (fun w hS =>ian k k un22 sz5 O O O O (by omega) (by omega) (by omega) rr) jj<|dx 5 O (by kernel_rfl) (fun w hS =>lo 1 sc5 hS O O O O (BV_get _ k (by omega)) rr) jj<|dx 6 O (by kernel_rfl) (fun w hS =>xor8 O O O O rr) jj ?_
  refine dl 7 O (by kernel_rfl)<|ian k k un22 sz5 O O O O (by omega) (by omega) (by omega)<|ly O ?_
  refine dl 8 O (by kernel_rfl)<|st (cs' := BV (fill8 16 (fun i =>gv a i ^^^ gv b i) a (k + 1))) 2 sz5 hS O O O O O O (by rw [BV_size]; omega) (by rw [BV_set, gv_fill_ge _ _ (Nat.le_refl _)]; exact congrArg BV (fill8_succ (fun i => gv a i ^^^ gv b i) a k)) fun w hS =>ly O<|de (by kernel_rfl)<|q_block_norm<|wt<|wc_region<|addi (by omega) (by omega) O O O O<|mv O O O ?_
  refine again_q (k + 1) ⟨O, O, O, lkI O (by first | omega | rfl), trivial⟩ ⟨by omega, hS⟩ (by omega)
 ·try simp only [SB] at hc1
  refine wc_exit<|q_then_exit<|q_then_exit<|q_block_hit<|wt<|rg<|la 2 ag22 hS O O O O (BV_size _)<|sa 0 ag22 hS O O O (BV_one _) O (BV_size _) (BV_size _) fun w hS =>wt<|wc_ret<|fin1 (v := .agg (BV (fill8 16 (fun i =>gv a i ^^^ gv b i) a k))) O ⟨_, O, lv_a ag22 (hS.get 0 O) (BV_size _)⟩ ?_
  refine ⟨?_, hS.drop⟩
  have hk4 : k = 16 := by omega
  subst hk4; rw [fill8_n]; rfl
end Go.Proofs.XS
