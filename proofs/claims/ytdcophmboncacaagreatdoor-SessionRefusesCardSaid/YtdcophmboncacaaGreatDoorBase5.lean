/- Part 5 of the ground of this seat's proofs: rules of a calculus of walks, and what the functions of the lower layers compute; no conditions beyond those that each statement bears. -/
import Derived.Test.YtdcophmboncacaaGreatDoorBase4
set_option linter.unusedVariables false
set_option linter.unusedSimpArgs false
set_option linter.unnecessarySimpa false
set_option linter.defProp false
set_option maxRecDepth 100000
set_option maxHeartbeats 2000000
namespace Go.Proofs.XS
open Go Go.X Go.Proofs
theorem sp_table_Table_Cipher (t c : Nat) (key : V8 16) (w0 : World) (hT : TabAt w0 t c key) : Calls Tryz.prog 144 #[Ptr t 0] w0 (Ret w0 (Ptr c 0)) := by
 refine enter (args := [Ptr t 0]) Tryz.func144 O O<|startw fun w hS =>?_
 obtain ⟨⟨T, hT1⟩, E, hC⟩ := id hT
 refine rg<|asg O O O<|wt<|wc_seq<|rg<|mv O O O<|eqpn un77 O O O O<|wt<|wc_if_f O<|wc_skip<|wt<|rg ?_
 refine mv O O O<|nilp O O O<|fan 0 0 un139 O sz79 (by decide) O O O O (by omega)<|lod hT1 List.not_mem_nil sc79 hS O O O (cat_l (a := 1) O (by omega) O)<|asg O O O<|wt<|wc_ret<|fin1 (v := Ptr c 0) O O ?_
 exact ⟨rfl, hS.drop⟩
theorem sp_table_Table_right (t c : Nat) (key : V8 16) (w0 : World) (hT : TabAt w0 t c key) : Calls Tryz.prog 174 #[Ptr t 0] w0 (Ret w0 (Ptr t 0)) := by
 refine enter (args := [Ptr t 0]) Tryz.func174 O O<|startw fun w hS =>?_
 obtain ⟨⟨T, hT1⟩, E, hC⟩ := id hT
 refine rg<|asg O O O<|wt<|wc_seq<|rg<|mv O O O<|eqpn un77 O O O O<|wt<|wc_if_f O<|wc_skip<|wt<|rg ?_
 refine mv O O O<|asg O O O<|wt<|wc_ret<|fin1 (v := Ptr t 0) O O ?_
 exact ⟨rfl, hS.drop⟩
theorem sp_table_Table_Dollar (t c : Nat) (key : V8 16) (w0 : World) (hT : TabAt w0 t c key) : Calls Tryz.prog 147 #[Ptr t 0] w0 (Ret w0 (.agg (BV (lastL key 0)))) := by
 refine enter (args := [Ptr t 0]) Tryz.func147 O O<|startw fun w hS =>?_
 obtain ⟨⟨T, hT1⟩, E, hC⟩ := id hT
 refine rg<|ala zr22 hS O O fun b2 w hb2 hS =>wt<|rg<|mv O O O<|cv cf174 hS O O O O O (sp_table_Table_right t c key _ (hT.st hS)) fun w hS =>nilp O O O<|fan 17 17 un139 O sz22 (by decide) O O O O (by omega)<|lpd (u := .agg (BV (lastL key 0))) hT1 List.not_mem_nil ag22 hS O O O (le_sz (a := 1057) (cat_size (a := 1) (b := 1056) O (cat_size (a := 16) (b := 1040) (BV_size _) (cat_size (a := 16) (b := 1024) (BV_size _) (BV_size _)))) (by omega)) (cat_xr (a := 1) (o' := 16) O (by omega) (cat_xr (a := 16) (o' := 0) (BV_size _) (by omega) (cat_xl (a := 16) (BV_size _) (by omega) (ext_all (BV_size _))))) O<|sa 0 ag22 hS O O O (BV_one _) O (BV_size _) (BV_size _) fun w hS =>wt<|wc_ret ?_
 refine fin1 (v := .agg (BV (lastL key 0))) O ⟨_, O, lv_a ag22 (hS.get 0 O) (BV_size _)⟩ ?_
 exact ⟨rfl, hS.drop⟩
theorem sp_block_All_1 (m lp pb E n cap : Nat) (a : Option Addr) (bs : List UInt8) (J : Nat → World → Prop) (hn : bs.length = n) (hN : n ≤ 1000000) (hcap : n ≤ cap) (hJ : ∀ (k : Nat) (W : World), J k W → W.heap[pb]? = some (.cells #[.slice a n cap] E) ∧ Cel W a (c8 bs)) (hY : ∀ (k : Nat) (W : World), k < n / 16 → J k W → YieldAt (Fe none) m Tryz.prog lp #[I ((k + 1 : Nat) : Int), .agg (BV (blk bs k))] W fun e W' => e = .returned (.bool true) ∧ J (k + 1) W') (w : World) (h0 : J 0 w) : CallsIn (Fe none) (m + 1) Tryz.prog 172 #[.func (.yield lp) #[] #[], Ptr pb 0] w fun e W' => (∃ v, e = .returned v) ∧ J (n / 16) W' := by
 refine enterI (args := [.func (.yield lp) #[] #[], Ptr pb 0]) Tryz.func172 O O<|rgi ?_
 refine wi O (asg O O O ?_)
 refine wqi_then<|wci_block ?_
 refine wci_loop (σ := Nat) (fun k =>[(0, (.func (.yield lp) #[] #[])), (1, Ptr pb 0), (3, I (((k + 1 : Nat) : Int)))])
  (fun k w => k ≤ n / 16 ∧ J k w) (fun k => n / 16 - k) 0 ⟨rfl, rfl, rfl, trivial⟩ ⟨by omega, h0⟩ ?_
 rintro k w ⟨hk, hJk⟩
 obtain ⟨hb, hc⟩ := hJ k w hJk
 refine wci_seq<|rgi ?_
 refine wi O (mv O O O ?_)
 refine wi O (muli (by omega) (by omega) O O O O ?_)
 refine wi O (ld O O O (lv_c sc30 hb O) ?_)
 refine wi O (lens un30 O O O ?_)
 refine wi O (leq O O O O ?_)
 refine wqi_then ?_
 refine wci_if O (fun hc1 =>?_) (fun hc1 =>?_)
 ·try simp only [SB] at hc1
  refine wci_skip<|wqi_then<|wci_seq<|wci_block<|rgi ?_
  refine wi O (mv O O O ?_)
  refine wi O (mv O O O ?_)
  refine wi O (ld O O O (lv_c sc30 hb O) ?_)
  refine wi O (mv O O O ?_)
  refine wi O (subi (by omega) (by omega) O O O O ?_)
  refine wi O (muli (by omega) (by omega) O O O O ?_)
  refine wi O (mv O O O ?_)
  refine wi O (muli (by omega) (by omega) O O O O ?_)
  refine wi O (s_lh (k * 16) ((k + 1) * 16) un30 sz5 O O O O O (by omega) (by omega) (by omega) (by omega) ?_)
  refine wi O (s2b un22 O O O (by omega) ((((hc).take8 ((k + 1) * 16)).drop8 (lo := k * 16) (cap := cap) (by first | omega | (simp; omega) | simp)).some8 (j := 0) (by first | omega | (simp; omega) | simp)) ?_)
  refine wi O (ld O O O (lv_celj 0 ag22 (hc.drop8 (lo := k * 16) (cap := cap) (by omega)) (by simp; omega) (by omega)) ?_)
  refine yld O O O O (hY k w (by omega) hJk) ?_
  rintro _ w ⟨rfl, hJk⟩
  refine ⟨_, O, ?_⟩
  refine wi O (notb O O O ?_)
  refine wqi_then<|wci_if_f O<|wci_skip<|q_block_norm<|wqi_then<|wci_region ?_
  refine wi O (mv O O O ?_)
  refine wi O (addi (by omega) (by omega) O O O O ?_)
  refine wi O (asg O O O ?_)
  refine again_q (k + 1) ⟨O, O, lkI O (by first | omega | rfl), trivial⟩ ⟨by omega, hJk⟩ (by omega)
 ·try simp only [SB] at hc1
  have hk4 : k = n / 16 := by omega
  refine wci_exit<|q_then_exit<|q_then_exit<|q_block_hit<|q_norm_ret<|fin0 O ?_
  exact ⟨⟨_, rfl⟩, hk4 ▸ hJk⟩
theorem sp_block_All (a : Option Addr) (n cap : Nat) (w0 : World) : Calls Tryz.prog 141 #[.slice a n cap] w0 (RetS w0 (fun v L => ∃ b, v = .func (.func 172) #[] #[Ptr b 0] ∧ L = [(b, .cells #[.slice a n cap] 30)])) := by
 refine enter (args := [.slice a n cap]) Tryz.func141 O O<|startw fun w hS =>rg<|bx1 hS O O O O fun b1 w hb1 hS =>asg O O O<|wt<|rg<|mkf O O O<|asg O O O<|wt<|wc_ret<|fin1 (v := .func (.func 172) #[] #[Ptr b1 0]) O O ?_
 exact ⟨_, _, rfl, ⟨b1, rfl, rfl⟩, hS⟩
theorem sp_table_Table_At (t c : Nat) (key : V8 16) (i : Nat) (i_ : Int) (w0 : World) (hi_ : i_ = (i : Int)) (hT : TabAt w0 t c key) (hi : i < 64) : Calls Tryz.prog 201 #[Ptr t 0, I i_] w0 (Ret w0 (.agg (BV (blkAt key i)))) := by
 subst hi_
 refine enter (args := [Ptr t 0, I (i : Int)]) Tryz.func201 O O<|startw fun w hS =>?_
 obtain ⟨⟨T, hT1⟩, E, hC⟩ := id hT
 refine rg<|ala zr22 hS O O fun b4 w hb4 hS =>wt<|wc_seq<|rg<|mv O O O<|lss O O O O<|mv O O O ?_
 refine spl 7 O (fun hb1 =>?_) (fun hb1 =>?_)
 ·try simp only [SB] at hb1
  exfalso; omega
 ·try simp only [SB] at hb1
  refine mv O O O<|geq O O O O<|pk_f O O O O<|wt ?_
  refine wc_if O (fun hc1 =>?_) (fun hc1 =>?_)
  ·try simp only [SB] at hc1
   exfalso; omega
  ·try simp only [SB] at hc1
   refine wc_skip<|wt<|rg<|mv O O O<|cv cf174 hS O O O O O (sp_table_Table_right t c key _ (hT.st hS)) fun w hS =>mv O O O<|nilp O O O<|fan 33 33 un139 O sz137 (by decide) O O O O (by omega)<|ian i (33 + i * 16) un137 sz22 O O O O (by omega) (by omega) (by omega)<|lpd (u := .agg (BV (seg8 16 (blkL key 64) (i * 16)))) hT1 List.not_mem_nil ag22 hS O O O (le_sz (a := 1057) (cat_size (a := 1) (b := 1056) O (cat_size (a := 16) (b := 1040) (BV_size _) (cat_size (a := 16) (b := 1024) (BV_size _) (BV_size _)))) (by omega)) (cat_xr (a := 1) (o' := 32 + i * 16) O (by omega) (cat_xr (a := 16) (o' := 16 + i * 16) (BV_size _) (by omega) (cat_xr (a := 16) (o' := i * 16) (BV_size _) (by omega) (BV_extract 16 _ (i * 16) (by omega))))) O<|sa 0 ag22 hS O O O (BV_one _) O (BV_size _) (BV_size _) fun w hS =>wt ?_
   refine wc_ret<|fin1 (v := .agg (BV (seg8 16 (blkL key 64) (i * 16)))) O ⟨_, O, lv_a ag22 (hS.get 0 O) (BV_size _)⟩ ?_
   exact ⟨rfl, hS.drop⟩
theorem sp_math_bits_TrailingZeros64 (x : UInt64) (w0 : World) (hx : x ≠ 0) (hG : Gl 1 w0) : Calls Tryz.prog 205 #[U64 x] w0 (Ret w0 (I ((ctz x : Nat) : Int))) := by
 refine enter (args := [U64 x]) Tryz.func205 O O<|startw fun w hS =>?_
 have hi := ctzi_lt x
 simp only [ctzi] at hi
 refine rg<|asg O O O<|wt<|wc_seq<|rg<|mv O O O<|eqi O O O O<|wt ?_
 refine wc_if O (fun hc1 =>?_) (fun hc1 =>?_)
 ·try simp only [SB] at hc1
  exact absurd (UInt64.toNat_inj.1 (by simpa using hc1)) hx
 ·try simp only [SB] at hc1
  refine wc_skip<|wt<|rg<|mv O O O<|mv O O O<|negu64 O O O<|and64 O O O O<|mul64 (q := (285870213051353865 : UInt64)) O O O O<|shrn64 58 (by omega) O O O O<|ian ((shr64 ((x &&& -x) * 285870213051353865) 58).toNat) (((shr64 ((x &&& -x) * 285870213051353865) 58).toNat)) un283 sz5 O O O O (by omega) (by omega) (by omega)<|ldc sc5 O O O (gl_load (hG.st hS) (by omega))<|cvi un3 ⟨_, un5⟩ (by have := (gl deBl ((shr64 ((x &&& -x) * 285870213051353865) 58).toNat)).toNat_lt; omega) (by have := (gl deBl ((shr64 ((x &&& -x) * 285870213051353865) 58).toNat)).toNat_lt; omega) O O O ?_
  refine asg O O O<|wt<|wc_ret<|fin1 (v := I (((gl deBl ((shr64 ((x &&& -x) * 285870213051353865) 58).toNat)).toNat : Int))) O O ?_
  refine ⟨?_, hS.drop⟩
  rw [ctz, if_neg hx]; rfl
theorem sp_bits_Zeros (x : UInt64) (w0 : World) (hx : x ≠ 0) (hG : Gl 1 w0) : Calls Tryz.prog 202 #[U64 x] w0 (Ret w0 (I ((ctz x : Nat) : Int))) := by
 refine enter (args := [U64 x]) Tryz.func202 O O<|startw fun w hS =>rg<|asg O O O<|wt<|rg<|mv O O O<|cv cf205 hS O O O O O (sp_math_bits_TrailingZeros64 x _ (by assumption) (hG.st hS)) fun w hS =>asg O O O<|wt<|wc_ret<|fin1 (v := I ((ctz x : Nat) : Int)) O O ?_
 exact ⟨rfl, hS.drop⟩
theorem sp_table_Table_For (t c : Nat) (key : V8 16) (x : UInt64) (w0 : World) (hT : TabAt w0 t c key) (hx : x ≠ 0) (hG : Gl 1 w0) : Calls Tryz.prog 173 #[Ptr t 0, U64 x] w0 (Ret w0 (.agg (BV (forN key x)))) := by
 refine enter (args := [Ptr t 0, U64 x]) Tryz.func173 O O<|startw fun w hS =>?_
 obtain ⟨⟨T, hT1⟩, E, hC⟩ := id hT
 have hlt := ctz_lt x hx
 refine rg<|ala zr22 hS O O fun b4 w hb4 hS =>wt<|rg<|mv O O O<|mv O O O<|cv cf202 hS O O O O O (sp_bits_Zeros x _ (by assumption) (hG.st hS)) fun w hS =>cv cf201 hS O O O O O (sp_table_Table_At t c key ((ctz x)) _ _ (by omega) (hT.st hS) (by omega)) fun w hS =>sa 0 ag22 hS O O O (BV_one _) O (BV_size _) (BV_size _) fun w hS =>wt<|wc_ret<|fin1 (v := .agg (BV (blkAt key (ctz x)))) O ⟨_, O, lv_a ag22 (hS.get 0 O) (BV_size _)⟩ ?_
 exact ⟨rfl, hS.drop⟩
theorem sp_offset_Next (t c : Nat) (key : V8 16) (last : V8 16) (x : UInt64) (w0 : World) (hT : TabAt w0 t c key) (hx : x ≠ 0) (hG : Gl 1 w0) : Calls Tryz.prog 142 #[Ptr t 0, .agg (BV last), U64 x] w0 (Ret w0 (.agg (BV (nextO key last x)))) := by
 refine enter (args := [Ptr t 0, .agg (BV last), U64 x]) Tryz.func142 O O<|startw fun w hS =>?_
 obtain ⟨⟨T, hT1⟩, E, hC⟩ := id hT
 refine rg<|bxa hS O O O fun b4 w hb4 hS =>ala zr22 hS O O fun b6 w hb6 hS =>wt<|rd mo 5 (fun w =>St w0 [] [(b6, .cells (BV (Vector.replicate 16 0)) 22), (b4, .cells (BV last) 22)] w)<|have hS := hS.drew; jx hS fun jj =>dx 0 O (by kernel_rfl) (fun w hS =>la 1 ag22 hS O O O O (BV_size _) rr) jj<|dx 1 O (by kernel_rfl) (fun w hS =>mv O O O rr) jj<|dx 2 O (by kernel_rfl) (fun w hS =>mv O O O rr) jj ?_
 refine dl 3 O (by kernel_rfl)<|cv cf173 hS O O O O O (sp_table_Table_For t c key x _ (hT.st hS) (by assumption) (hG.st hS)) fun w hS =>lx hS fun jj =>?_
 refine dl 4 O (by kernel_rfl)<|cv cf143 hS O O O O O (sp_block_Xor last ((forN key x)) _) fun w hS =>lx hS fun jj =>?_
 refine dl 5 O (by kernel_rfl)<|sa 0 ag22 hS O O O (BV_one _) O (BV_size _) (BV_size _) fun w hS =>ly O<|de (by kernel_rfl)<|wt<|wc_ret<|fin1 (v := .agg (BV (xorV last (forN key x)))) O ⟨_, O, lv_a ag22 (hS.get 0 O) (BV_size _)⟩ ?_
 exact ⟨rfl, hS.drop⟩
theorem sp_hash_state_add (t c : Nat) (key : V8 16) (sum off part : V8 16) (k : Nat) (k_ : Int) (w0 : World) (hk_ : k_ = (k : Int)) (hT : TabAt w0 t c key) (hk0 : 0 < k) (hkN : k < 1000000) (hG : Gl 1 w0) : Calls Tryz.prog 175 #[.agg (BV sum ++ BV off), Ptr t 0, I k_, .agg (BV part)] w0 (Ret w0 (.agg (BV (addS key sum off part k) ++ BV (addO key off k)))) := by
 subst hk_
 refine enter (args := [.agg (BV sum ++ BV off), Ptr t 0, I (k : Int), .agg (BV part)]) Tryz.func175 O O<|startw fun w hS =>?_
 obtain ⟨⟨T, hT1⟩, E, hC⟩ := id hT
 have hx := toU64_ne k hk0 hkN
 refine rg<|bxa hS O O O fun b4 w hb4 hS =>bxa hS O O O fun b7 w hb7 hS =>ala zr262 hS O O fun b8 w hb8 hS =>wt<|rg<|mv O O O<|fan 16 16 un262 O sz22 (by decide) O O O O (by omega)<|lp (u := .agg (BV off)) 2 ag22 hS O O O O (le_sz (a := 32) (cat_size (a := 16) (b := 16) (BV_size _) (BV_size _)) (by omega)) (cat_xr (a := 16) (o' := 0) (BV_size _) (by omega) (ext_all (BV_size _))) O<|mv O O O<|cvu64 un24 ⟨_, un3⟩ O O O<|cv cf142 hS O O O O O (sp_offset_Next t c key off ((toU64 ((k : Int)))) _ (hT.st hS) (by assumption) (hG.st hS)) fun w hS =>?_
 refine fan 16 16 un262 O sz22 (by decide) O O O O (by omega)<|spp (cs' := BV sum ++ BV (nextO key off (toU64 ((k : Int))))) 2 ag22 hS O O O (BV_one _) O (le_sz (a := 32) (cat_size (a := 16) (b := 16) (BV_size _) (BV_size _)) (by omega)) (BV_size _) (cat_pr (a := 16) (o' := 0) (BV_size _) (by omega) (ple2 (BV_size _) (BV_size _) (by omega)) (put_all (BV_size _) (BV_size _))) fun w hS =>wt<|rd mo 10 (fun w =>St w0 [] [(b8, .cells (BV (Vector.replicate 16 0) ++ BV (Vector.replicate 16 0)) 262), (b7, .cells (BV part) 22), (b4, .cells (BV sum ++ BV (nextO key off (toU64 ((k : Int))))) 262)] w)<|have hS := hS.drew; jx hS fun jj =>dx 0 O (by kernel_rfl) (fun w hS =>fan 0 0 un262 O sz22 (by decide) O O O O (by omega) rr) jj<|dx 1 O (by kernel_rfl) (fun w hS =>lp (u := .agg (BV sum)) 2 ag22 hS O O O O (le_sz (a := 32) (cat_size (a := 16) (b := 16) (BV_size _) (BV_size _)) (by omega)) (cat_xl (a := 16) (BV_size _) (by omega) (ext_all (BV_size _))) O rr) jj<|dx 2 O (by kernel_rfl) (fun w hS =>mv O O O rr) jj<|dx 4 O (by kernel_rfl) (fun w hS =>la 1 ag22 hS O O O O (BV_size _) rr) jj<|dx 5 O (by kernel_rfl) (fun w hS =>fan 16 16 un262 O sz22 (by decide) O O O O (by omega) rr) jj<|dx 6 O (by kernel_rfl) (fun w hS =>lp (u := .agg (BV (nextO key off (toU64 ((k : Int)))))) 2 ag22 hS O O O O (le_sz (a := 32) (cat_size (a := 16) (b := 16) (BV_size _) (BV_size _)) (by omega)) (cat_xr (a := 16) (o' := 0) (BV_size _) (by omega) (ext_all (BV_size _))) O rr) jj ?_
 refine dl 3 O (by kernel_rfl)<|cv cf144 hS O O O O O (sp_table_Table_Cipher t c key _ (hT.st hS)) fun w hS =>lx hS fun jj =>?_
 refine dl 7 O (by kernel_rfl)<|cv cf143 hS O O O O O (sp_block_Xor part ((nextO key off (toU64 ((k : Int))))) _) fun w hS =>lx hS fun jj =>?_
 refine dl 8 O (by kernel_rfl)<|cv cf71 hS O O O O O (sp_fast_Cipher_Encrypt c _ key ((xorV part (nextO key off (toU64 ((k : Int)))))) _ (hS.old hC List.not_mem_nil)) fun w hS =>lx hS fun jj =>?_
 refine dl 9 O (by kernel_rfl)<|cv cf143 hS O O O O O (sp_block_Xor sum ((enc key (xorV part (nextO key off (toU64 ((k : Int))))))) _) fun w hS =>lx hS fun jj =>?_
 refine dl 10 O (by kernel_rfl)<|fan 0 0 un262 O sz22 (by decide) O O O O (by omega)<|ly O ?_
 refine dl 11 O (by kernel_rfl)<|spp (cs' := BV (xorV sum (enc key (xorV part (nextO key off (toU64 ((k : Int))))))) ++ BV (nextO key off (toU64 ((k : Int))))) 2 ag22 hS O O O (BV_one _) O (le_sz (a := 32) (cat_size (a := 16) (b := 16) (BV_size _) (BV_size _)) (by omega)) (BV_size _) (cat_pl (a := 16) (BV_size _) (ple (BV_size _) (by omega)) (put_all (BV_size _) (BV_size _))) fun w hS =>ly O<|de (by kernel_rfl)<|wt<|rg<|la 2 ag262 hS O O O O (cat_size (a := 16) (b := 16) (BV_size _) (BV_size _))<|sa 0 ag262 hS O O O (cat_one (BV_one _) (BV_one _)) O (cat_size (a := 16) (b := 16) (BV_size _) (BV_size _)) (cat_size (a := 16) (b := 16) (BV_size _) (BV_size _)) fun w hS =>wt<|wc_ret<|fin1 (v := .agg (BV (xorV sum (enc key (xorV part (nextO key off (toU64 ((k : Int))))))) ++ BV (nextO key off (toU64 ((k : Int)))))) O ⟨_, O, lv_a ag262 (hS.get 0 O) (cat_size (a := 16) (b := 16) (BV_size _) (BV_size _))⟩ ?_
 exact ⟨rfl, hS.drop⟩
theorem sp_block_Pad (a : Option Addr) (n cap : Nat) (bs : List UInt8) (w0 : World) (hn : bs.length = n) (hN : n ≤ 1000000) (hc : Cel w0 a (c8 bs)) (h16 : n < 16) : Calls Tryz.prog 146 #[.slice a n cap] w0 (Ret w0 (.tuple #[.agg (BV (padV bs)), .bool true])) := by
 refine enter (args := [.slice a n cap]) Tryz.func146 O O<|startw fun w hS =>rg<|ala zr22 hS O O fun b2 w hb2 hS =>asg O O O<|wt<|rg<|ala zr22 hS O O fun b4 w hb4 hS =>wt<|wc_seq<|rg<|mv O O O ?_
 refine lens un30 O O O<|geq O O O O<|wt ?_
 refine wc_if O (fun hc1 =>?_) (fun hc1 =>?_)
 ·try simp only [SB] at hc1
  exfalso; omega
 ·try simp only [SB] at hc1
  refine wc_skip<|wt<|rg<|a_all un22 ⟨_, sz5⟩ O O O<|mv O O O<|cpy (cs' := BV (ofl 16 bs)) (q := n) (bs := bs) 0 sl30 hS O O O O O (hc.st hS) (by first | rfl | omega | (simp; omega) | (simp; done)) (by first | rfl | (simp only [Nat.min_def]; split <;> omega)) (le_sz (BV_size _) (by omega)) (pad_put bs n hn.symm (by omega)) fun w hS =>ian n n un22 sz5 O O O O (by omega) (by omega) (by omega)<|st 0 sz5 hS O O O O O O (by rw [BV_size]; omega) (BV_set _ _ (128 : UInt8)) fun w hS =>wt<|rg<|la 0 ag22 hS O O O O (BV_size _)<|sa 1 ag22 hS O O O (BV_one _) O (BV_size _) (BV_size _) fun w hS =>?_
  refine asg O O O<|wt<|wc_ret<|fin2 (v := .agg (BV ((ofl 16 bs).setIfInBounds n 128))) (u := .bool true) O ⟨_, O, lv_a ag22 (hS.get 1 O) (BV_size _)⟩ O ?_
  refine ⟨?_, hS.drop⟩
  rw [← hn]; rfl
theorem sp_table_Table_Star (t c : Nat) (key : V8 16) (w0 : World) (hT : TabAt w0 t c key) : Calls Tryz.prog 145 #[Ptr t 0] w0 (Ret w0 (.agg (BV (star key)))) := by
 refine enter (args := [Ptr t 0]) Tryz.func145 O O<|startw fun w hS =>?_
 obtain ⟨⟨T, hT1⟩, E, hC⟩ := id hT
 refine rg<|ala zr22 hS O O fun b2 w hb2 hS =>wt<|rg<|mv O O O<|cv cf174 hS O O O O O (sp_table_Table_right t c key _ (hT.st hS)) fun w hS =>nilp O O O<|fan 1 1 un139 O sz22 (by decide) O O O O (by omega)<|lpd (u := .agg (BV (star key))) hT1 List.not_mem_nil ag22 hS O O O (le_sz (a := 1057) (cat_size (a := 1) (b := 1056) O (cat_size (a := 16) (b := 1040) (BV_size _) (cat_size (a := 16) (b := 1024) (BV_size _) (BV_size _)))) (by omega)) (cat_xr (a := 1) (o' := 0) O (by omega) (cat_xl (a := 16) (BV_size _) (by omega) (ext_all (BV_size _)))) O<|sa 0 ag22 hS O O O (BV_one _) O (BV_size _) (BV_size _) fun w hS =>wt<|wc_ret ?_
 refine fin1 (v := .agg (BV (star key))) O ⟨_, O, lv_a ag22 (hS.get 0 O) (BV_size _)⟩ ?_
 exact ⟨rfl, hS.drop⟩
theorem sp_hash_Rest (t c : Nat) (key : V8 16) (off : V8 16) (a : Option Addr) (n cap : Nat) (bs : List UInt8) (w0 : World) (hT : TabAt w0 t c key) (hn : bs.length = n) (hN : n ≤ 1000000) (hc : Cel w0 a (c8 bs)) (h16 : n < 16) : Calls Tryz.prog 176 #[Ptr t 0, .agg (BV off), .slice a n cap] w0 (Ret w0 (.agg (BV (restB key off bs)))) := by
 refine enter (args := [Ptr t 0, .agg (BV off), .slice a n cap]) Tryz.func176 O O<|startw fun w hS =>?_
 obtain ⟨⟨T, hT1⟩, E, hC⟩ := id hT
 refine rg<|bxa hS O O O fun b4 w hb4 hS =>ala zr22 hS O O fun b6 w hb6 hS =>wt<|rg<|mv O O O<|cv cf146 hS O O O O O (sp_block_Pad a n cap bs _ (by first | rfl | omega | (simp; omega) | (simp; done)) (by omega) (hc.st hS) (by omega)) fun w hS =>mv O O O<|ext O O O O<|ext O O O O<|ala zr22 hS O O fun b7 w hb7 hS =>sa 0 ag22 hS O O O (BV_one _) O (BV_size _) (BV_size _) fun w hS =>?_
 refine asg O O O<|wt<|wc_seq<|rg<|mv O O O<|notb O O O<|mv O O O<|mv O O O<|lens un30 O O O<|eqi O O O O<|pk_f O O O O<|wt ?_
 refine wc_if O (fun hc1 =>?_) (fun hc1 =>?_)
 ·try simp only [SB] at hc1
  have hz : bs.length = 0 := by omega
  refine rg<|bd (cs := BV (Vector.replicate 16 0)) O O O (by kernel_rfl)<|sa 1 ag22 hS O O O (BV_one _) O (BV_size _) (BV_size _) fun w hS =>wt<|wc_ret<|q_then_ret<|fin1 (v := .agg (BV (Vector.replicate 16 0))) O ⟨_, O, lv_a ag22 (hS.get 1 O) (BV_size _)⟩ ?_
  refine ⟨?_, hS.drop⟩
  simp only [restB]; rw [if_pos hz]
 ·try simp only [SB] at hc1
  have hz : ¬ bs.length = 0 := by omega
  refine wc_skip<|wt<|rd mo 9 (fun w =>St w0 [] [(b7, .cells (BV (padV bs)) 22), (b6, .cells (BV (Vector.replicate 16 0)) 22), (b4, .cells (BV off) 22)] w)<|have hS := hS.drew; jx hS fun jj =>dx 0 O (by kernel_rfl) (fun w hS =>mv O O O rr) jj<|dx 2 O (by kernel_rfl) (fun w hS =>la 0 ag22 hS O O O O (BV_size _) rr) jj<|dx 3 O (by kernel_rfl) (fun w hS =>la 2 ag22 hS O O O O (BV_size _) rr) jj<|dx 4 O (by kernel_rfl) (fun w hS =>mv O O O rr) jj ?_
  refine dl 1 O (by kernel_rfl)<|cv cf144 hS O O O O O (sp_table_Table_Cipher t c key _ (hT.st hS)) fun w hS =>lx hS fun jj =>?_
  refine dl 5 O (by kernel_rfl)<|cv cf145 hS O O O O O (sp_table_Table_Star t c key _ (hT.st hS)) fun w hS =>lx hS fun jj =>?_
  refine dl 6 O (by kernel_rfl)<|cv cf143 hS O O O O O (sp_block_Xor off ((star key)) _) fun w hS =>lx hS fun jj =>?_
  refine dl 7 O (by kernel_rfl)<|cv cf143 hS O O O O O (sp_block_Xor ((padV bs)) ((xorV off (star key))) _) fun w hS =>lx hS fun jj =>?_
  refine dl 8 O (by kernel_rfl)<|cv cf71 hS O O O O O (sp_fast_Cipher_Encrypt c _ key ((xorV (padV bs) (xorV off (star key)))) _ (hS.old hC List.not_mem_nil)) fun w hS =>lx hS fun jj =>?_
  refine dl 9 O (by kernel_rfl)<|sa 1 ag22 hS O O O (BV_one _) O (BV_size _) (BV_size _) fun w hS =>ly O<|de (by kernel_rfl)<|wt<|wc_ret<|fin1 (v := .agg (BV (enc key (xorV (padV bs) (xorV off (star key)))))) O ⟨_, O, lv_a ag22 (hS.get 1 O) (BV_size _)⟩ ?_
  refine ⟨?_, hS.drop⟩
  simp only [restB]; rw [if_neg hz]
theorem sp_hash_Sum (t c : Nat) (key : V8 16) (a : Option Addr) (n cap : Nat) (bs : List UInt8) (w0 : World) (hT : TabAt w0 t c key) (hn : bs.length = n) (hN : n ≤ 1000000) (hc : Cel w0 a (c8 bs)) (hcap : n ≤ cap) (hG : Gl 1 w0) : Calls Tryz.prog 148 #[Ptr t 0, .slice a n cap] w0 (Ret w0 (.agg (BV (hashV key bs)))) := by
 refine enterM (args := [Ptr t 0, .slice a n cap]) Tryz.func148 O O<|startw fun w hS =>?_
 obtain ⟨⟨T, hT1⟩, E, hC⟩ := id hT
 refine rg<|bx1 hS O O O O fun b2 w hb2 hS =>ala zr22 hS O O fun b4 w hb4 hS =>wt<|rg<|ala zr262 hS O O fun b5 w hb5 hS =>wt<|rg<|al1 zr3 hS O O O fun b6 w hb6 hS =>st 0 sz3 hS O O O O O O Nat.zero_lt_one O fun w hS =>wt<|wc_seq ?_
 refine rg<|mv O O O<|cs cf141 hS O O O O O (sp_block_All a n cap _) ?_
 rintro _ _ w ⟨b10, rfl, rfl⟩ hS
 refine wt<|wc_block ?_
 refine wc_range2 (m := 0) (fun k =>I ((k + 1 : Nat) : Int)) (fun k =>.agg (BV (blk bs k))) (n / 16) (fun W =>W.heap[b10]? = some (.cells #[.slice a n cap] 30) ∧ Cel W a (c8 bs)) (fun k L =>L = [(b10, .cells (#[(.slice a n cap)]) 30), (b6, .cells (#[I (((k * 16 : Nat) : Int))]) 3), (b5, .cells (BV ((sumL key bs k).1) ++ BV ((sumL key bs k).2)) 262), (b4, .cells (BV (Vector.replicate 16 0)) 22), (b2, .cells (#[Ptr t 0]) 77)]) O cf172 O O hS O ?_ ?_ ?_ ?_
 ·exact fun lp J W hJ hY h0 => sp_block_All_1 0 lp b10 _ n cap a bs J hn hN hcap hJ hY W h0
 ·exact fun k L' W hL hS => by subst hL; exact ⟨hS.get 0 rfl, hc.st hS⟩
 ·rintro k lp D r _ w hr hp hk rfl hS
  refine rgi ?_
  refine wi O (asg O O O ?_)
  refine wqi_then<|wci_region ?_
  refine wi O (ala zr22 hS O O ?_)
  intro b8 w hb8 hS
  refine wi O (sa 0 ag22 hS O O O (BV_one _) O (BV_size _) (BV_size _) ?_)
  intro w hS
  refine begin_q 1 hS O hr (fun w hS =>wk_ci ?_)
  refine wci_block<|rgi ?_
  refine wi O (la 5 ag262 hS O O O O (cat_size (a := 16) (b := 16) (BV_size _) (BV_size _)) ?_)
  refine wi O (lo 7 sc77 hS O O O O O ?_)
  refine wi O (mv O O O ?_)
  refine wi O (la 0 ag22 hS O O O O (BV_size _) ?_)
  refine wi O (cv cf175 hS O O O O O (sp_hash_state_add t c key (((sumL key bs k).1)) (((sumL key bs k).2)) ((blk bs k)) ((k + 1)) _ _ (by omega) (hT.st hS) (by omega) (by omega) (hG.st hS)) ?_)
  intro w hS
  refine wi O (sa 5 ag262 hS O O O (cat_one (BV_one _) (BV_one _)) O (cat_size (a := 16) (b := 16) (BV_size _) (BV_size _)) (cat_size (a := 16) (b := 16) (BV_size _) (BV_size _)) ?_)
  intro w hS
  refine wqi_then<|wci_region ?_
  refine wi O (mv O O O ?_)
  refine wi O (muli (by omega) (by omega) O O O O ?_)
  refine wi O (st 4 sz3 hS O O O O O O Nat.zero_lt_one O ?_)
  intro w hS
  refine q_block_norm ?_
  refine end_q 1 hS O hr hp (fun w hS =>?_)
  exact ⟨rfl, _, rfl, hS.tl⟩
 ·rintro D _ w rfl hS
  refine q_block_norm<|wt<|rd mo 10 (fun w =>St w0 [] [(D, .deferred (some [])), (b10, .cells (#[(.slice a n cap)]) 30), (b6, .cells (#[I (((n / 16 * 16 : Nat) : Int))]) 3), (b5, .cells (BV ((sumL key bs (n / 16)).1) ++ BV ((sumL key bs (n / 16)).2)) 262), (b4, .cells (BV (Vector.replicate 16 0)) 22), (b2, .cells (#[Ptr t 0]) 77)] w)<|have hS := hS.drew; jx hS fun jj =>dx 0 O (by kernel_rfl) (fun w hS =>fan 0 0 un262 O sz22 (by decide) O O O O (by omega) rr) jj<|dx 1 O (by kernel_rfl) (fun w hS =>lp (u := .agg (BV ((sumL key bs (n / 16)).1))) 3 ag22 hS O O O O (le_sz (a := 32) (cat_size (a := 16) (b := 16) (BV_size _) (BV_size _)) (by omega)) (cat_xl (a := 16) (BV_size _) (by omega) (ext_all (BV_size _))) O rr) jj<|dx 2 O (by kernel_rfl) (fun w hS =>lo 5 sc77 hS O O O O O rr) jj<|dx 3 O (by kernel_rfl) (fun w hS =>fan 16 16 un262 O sz22 (by decide) O O O O (by omega) rr) jj<|dx 4 O (by kernel_rfl) (fun w hS =>lp (u := .agg (BV ((sumL key bs (n / 16)).2))) 3 ag22 hS O O O O (le_sz (a := 32) (cat_size (a := 16) (b := 16) (BV_size _) (BV_size _)) (by omega)) (cat_xr (a := 16) (o' := 0) (BV_size _) (by omega) (ext_all (BV_size _))) O rr) jj<|dx 5 O (by kernel_rfl) (fun w hS =>mv O O O rr) jj<|dx 6 O (by kernel_rfl) (fun w hS =>lo 2 sc3 hS O O O O O rr) jj<|dx 7 O (by kernel_rfl) (fun w hS =>s_l (n / 16 * 16) un30 sz5 O O O O (by omega) (by omega) rr) jj ?_
  refine dl 8 O (by kernel_rfl)<|cv cf176 hS O O O O O (sp_hash_Rest t c key (((sumL key bs (n / 16)).2)) ((sla a (n / 16 * 16) cap)) ((n - (n / 16 * 16))) ((cap - (n / 16 * 16))) (((bs).drop (n / 16 * 16))) _ (hT.st hS) (by first | rfl | omega | (simp; omega) | (simp; done)) (by omega) ((hc.st hS).drop8 (lo := n / 16 * 16) (cap := cap) (by first | omega | (simp; omega) | simp)) (by omega)) fun w hS =>lx hS fun jj =>?_
  refine dl 9 O (by kernel_rfl)<|cv cf143 hS O O O O O (sp_block_Xor (((sumL key bs (n / 16)).1)) ((restB key ((sumL key bs (n / 16)).2) ((bs).drop (n / 16 * 16)))) _) fun w hS =>lx hS fun jj =>?_
  refine dl 10 O (by kernel_rfl)<|sa 4 ag22 hS O O O (BV_one _) O (BV_size _) (BV_size _) fun w hS =>ly O<|de (by kernel_rfl)<|wt<|wc_ret ?_
  refine finM1 (v := .agg (BV (xorV ((sumL key bs (n / 16)).1) (restB key ((sumL key bs (n / 16)).2) ((bs).drop (n / 16 * 16)))))) 0 hS O O O (fun w hS =>⟨_, O, lv_a ag22 (hS.get 4 O) (BV_size _)⟩) (fun w hS =>?_)
  refine ⟨?_, hS.drop⟩
  simp only [hashV, hn]
theorem sp_seal_Tag (t c : Nat) (key : V8 16) (ck off : V8 16) (a : Option Addr) (n cap : Nat) (bs : List UInt8) (w0 : World) (hT : TabAt w0 t c key) (hn : bs.length = n) (hN : n ≤ 1000000) (hc : Cel w0 a (c8 bs)) (hcap : n ≤ cap) (hG : Gl 1 w0) : Calls Tryz.prog 117 #[Ptr t 0, .agg (BV ck), .agg (BV off), .slice a n cap] w0 (Ret w0 (.agg (BV (tagV key ck off bs)))) := by
 refine enter (args := [Ptr t 0, .agg (BV ck), .agg (BV off), .slice a n cap]) Tryz.func117 O O<|startw fun w hS =>?_
 obtain ⟨⟨T, hT1⟩, E, hC⟩ := id hT
 refine rg<|bxa hS O O O fun b5 w hb5 hS =>bxa hS O O O fun b6 w hb6 hS =>ala zr22 hS O O fun b8 w hb8 hS =>wt ?_
 refine sqj (fun l w =>∃ (b9 : Nat), l = [(0, Ptr t 0), (3, .slice a n cap), (8, Ptr b8 0), (9, Ptr b9 0)] ∧ St w0 [] [(b9, .cells (BV (xorV ck (xorV off (lastL key 0)))) 22), (b8, .cells (BV (Vector.replicate 16 0)) 22), (b6, .cells (BV off) 22), (b5, .cells (BV ck) 22)] w) ?_ ?_
 ·refine wc_draw mo 7 (fun w =>St w0 [] [(b8, .cells (BV (Vector.replicate 16 0)) 22), (b6, .cells (BV off) 22), (b5, .cells (BV ck) 22)] w)<|have hS := hS.drew; jx hS fun jj =>dx 0 O (by kernel_rfl) (fun w hS =>la 2 ag22 hS O O O O (BV_size _) rr) jj<|dx 1 O (by kernel_rfl) (fun w hS =>la 1 ag22 hS O O O O (BV_size _) rr) jj<|dx 2 O (by kernel_rfl) (fun w hS =>mv O O O rr) jj ?_
  refine dl2 3 6 O O (by kernel_rfl) ?_ ?_
  ·refine cv cf147 hS O O O O O (sp_table_Table_Dollar t c key _ (hT.st hS)) fun w hS =>lx hS fun jj =>?_
   refine dl2 4 6 O O (by kernel_rfl) ?_ ?_
   ·refine cv cf143 hS O O O O O (sp_block_Xor off ((lastL key 0)) _) fun w hS =>lx hS fun jj =>?_
    refine dl2 5 6 O O (by kernel_rfl) ?_ ?_
    ·refine cv cf143 hS O O O O O (sp_block_Xor ck ((xorV off (lastL key 0))) _) fun w hS =>lx hS fun jj =>?_
     refine dl 6 O (by kernel_rfl)<|ala zr22 hS O O fun b9 w hb9 hS =>lx hS.tl fun jj =>?_
     refine dl 7 O (by kernel_rfl)<|sa 0 ag22 hS O O O (BV_one _) O (BV_size _) (BV_size _) fun w hS =>ly O<|de (by kernel_rfl) ?_
     exact mmq ⟨b9, rfl, hS⟩ ⟨rfl, rfl, rfl, rfl, trivial⟩
    ·refine ala zr22 hS O O fun b9 w hb9 hS =>lx hS.tl fun jj =>?_
     refine dl 5 O (by kernel_rfl)<|cv cf143 hS O O O O O (sp_block_Xor ck ((xorV off (lastL key 0))) _) fun w hS =>lx hS.tl fun jj =>?_
     refine dl 7 O (by kernel_rfl)<|sa 0 ag22 hS O O O (BV_one _) O (BV_size _) (BV_size _) fun w hS =>ly O<|de (by kernel_rfl) ?_
     exact mmq ⟨b9, rfl, hS⟩ ⟨rfl, rfl, rfl, rfl, trivial⟩
   ·refine ala zr22 hS O O fun b9 w hb9 hS =>lx hS.tl fun jj =>?_
    refine dl 4 O (by kernel_rfl)<|cv cf143 hS O O O O O (sp_block_Xor off ((lastL key 0)) _) fun w hS =>lx hS.tl fun jj =>?_
    refine dl 5 O (by kernel_rfl)<|cv cf143 hS O O O O O (sp_block_Xor ck ((xorV off (lastL key 0))) _) fun w hS =>lx hS.tl fun jj =>?_
    refine dl 7 O (by kernel_rfl)<|sa 0 ag22 hS O O O (BV_one _) O (BV_size _) (BV_size _) fun w hS =>ly O<|de (by kernel_rfl) ?_
    exact mmq ⟨b9, rfl, hS⟩ ⟨rfl, rfl, rfl, rfl, trivial⟩
  ·refine ala zr22 hS O O fun b9 w hb9 hS =>lx hS.tl fun jj =>?_
   refine dl 3 O (by kernel_rfl)<|cv cf147 hS O O O O O (sp_table_Table_Dollar t c key _ (hT.st hS)) fun w hS =>lx hS.tl fun jj =>?_
   refine dl 4 O (by kernel_rfl)<|cv cf143 hS O O O O O (sp_block_Xor off ((lastL key 0)) _) fun w hS =>lx hS.tl fun jj =>?_
   refine dl 5 O (by kernel_rfl)<|cv cf143 hS O O O O O (sp_block_Xor ck ((xorV off (lastL key 0))) _) fun w hS =>lx hS.tl fun jj =>?_
   refine dl 7 O (by kernel_rfl)<|sa 0 ag22 hS O O O (BV_one _) O (BV_size _) (BV_size _) fun w hS =>ly O<|de (by kernel_rfl) ?_
   exact mmq ⟨b9, rfl, hS⟩ ⟨rfl, rfl, rfl, rfl, trivial⟩
 ·rintro _ w ⟨b9, rfl, hS⟩
  refine rd mo 8 (fun w =>St w0 [] [(b9, .cells (BV (xorV ck (xorV off (lastL key 0)))) 22), (b8, .cells (BV (Vector.replicate 16 0)) 22), (b6, .cells (BV off) 22), (b5, .cells (BV ck) 22)] w)<|have hS := hS.drew; jx hS fun jj =>dx 0 O (by kernel_rfl) (fun w hS =>mv O O O rr) jj<|dx 2 O (by kernel_rfl) (fun w hS =>la 0 ag22 hS O O O O (BV_size _) rr) jj<|dx 4 O (by kernel_rfl) (fun w hS =>mv O O O rr) jj<|dx 5 O (by kernel_rfl) (fun w hS =>mv O O O rr) jj ?_
  refine dl 1 O (by kernel_rfl)<|cv cf144 hS O O O O O (sp_table_Table_Cipher t c key _ (hT.st hS)) fun w hS =>lx hS fun jj =>?_
  refine dl 3 O (by kernel_rfl)<|cv cf71 hS O O O O O (sp_fast_Cipher_Encrypt c _ key ((xorV ck (xorV off (lastL key 0)))) _ (hS.old hC List.not_mem_nil)) fun w hS =>lx hS fun jj =>?_
  refine dl 6 O (by kernel_rfl)<|cv cf148 hS O O O O O (sp_hash_Sum t c key a n cap bs _ (hT.st hS) (by first | rfl | omega | (simp; omega) | (simp; done)) (by omega) (hc.st hS) (by omega) (hG.st hS)) fun w hS =>lx hS fun jj =>?_
  refine dl 7 O (by kernel_rfl)<|cv cf143 hS O O O O O (sp_block_Xor ((enc key (xorV ck (xorV off (lastL key 0))))) ((hashV key bs)) _) fun w hS =>lx hS fun jj =>?_
  refine dl 8 O (by kernel_rfl)<|sa 1 ag22 hS O O O (BV_one _) O (BV_size _) (BV_size _) fun w hS =>ly O<|de (by kernel_rfl)<|wt<|wc_ret<|fin1 (v := .agg (BV (xorV (enc key (xorV ck (xorV off (lastL key 0)))) (hashV key bs)))) O ⟨_, O, lv_a ag22 (hS.get 1 O) (BV_size _)⟩ ?_
  exact ⟨rfl, hS.drop⟩
theorem sp_block_Shift (b : V8 24) (n : Nat) (n_ : Int) (w0 : World) (hn_ : n_ = (n : Int)) (hn : n < 64) : Calls Tryz.prog 168 #[.agg (BV b), I n_] w0 (Ret w0 (.agg (BV (shiftV b n)))) := by
 subst hn_
 refine enter (args := [.agg (BV b), I (n : Int)]) Tryz.func168 O O<|startw fun w hS =>rg<|bxa hS O O O fun b2 w hb2 hS =>ala zr22 hS O O fun b4 w hb4 hS =>wt<|rg<|mv O O O<|maxin n (by omega) O O O O<|minin n (by omega) O O O O<|asg O O O<|wt ?_
 refine rg<|ala zr22 hS O O fun b5 w hb5 hS =>wt<|wc_seq<|rg<|mv O O O<|wt<|wc_block ?_
 refine wc_loop (σ := Nat) (fun k =>[(1, I (((n : Nat) : Int))), (2, Ptr b2 0), (4, Ptr b4 0), (5, Ptr b5 0), (12, I ((k : Int)))])
  (fun k w => (k ≤ 16) ∧ St w0 [] [(b5, .cells (BV (fill8 16 (shiftf b n) (Vector.replicate 16 0) k)) 22), (b4, .cells (BV (Vector.replicate 16 0)) 22), (b2, .cells (BV b) 255)] w) (fun k => 16 - k) 0 ⟨rfl, rfl, rfl, rfl, rfl, trivial⟩ ⟨by omega, (by simp only [Nat.zero_mul, Nat.add_zero, fill8_0, fill32_0]; exact hS)⟩ ?_
 rintro k w ⟨hk, hS⟩
 refine rg<|lss O O O O<|wt<|wc_seq ?_
 refine wc_if O (fun hc1 =>?_) (fun hc1 =>?_)
 ·try simp only [SB] at hc1
  refine wc_skip<|wt<|wc_seq<|wc_block<|rg<|mv O O O<|asg O O O<|wt<|rg<|mv O O O<|mv O O O<|quoi (by omega) (by omega) (by omega) O O O O ?_
  refine addi (by omega) (by omega) O O O O<|mv O O O<|remi (by omega) (by omega) O O O O<|cvu64 un171 ⟨_, un3⟩ O O O<|asg O O O<|asg O O O<|wt<|rg<|mv O O O<|mv O O O<|ian (k + (n / 8)) ((k + (n / 8))) un255 sz5 O O O O (by omega) (by omega) (by omega)<|lo 2 sc5 hS O O O O (BV_get _ (k + (n / 8)) (by omega)) ?_
  refine mv O O O<|shln8 ((toU64 (((n : Nat) : Int) % 8)).toNat) (by omega) O O O O<|ian k k un22 sz5 O O O O (by omega) (by omega) (by omega)<|st 0 sz5 hS O O O O O O (by rw [BV_size]; omega) (BV_set _ _ (shl8 (gv b (k + (n / 8))) ((toU64 (((n : Nat) : Int) % 8)).toNat) : UInt8)) fun w hS =>wt<|rg<|mv O O O<|gtr O O O O<|wt ?_
  refine wc_if O (fun hc2 =>?_) (fun hc2 =>?_)
  ·try simp only [SB] at hc2
   have hz : 0 < n % 8 := by have e := toU64_nat (n % 8) (by omega); have hc := hc2; rw [show ((n : Int) % 8) = ((n % 8 : Nat) : Int) from by omega] at hc; omega
   refine wc_draw mo 11 (fun w =>St w0 [] [(b5, .cells (BV ((fill8 16 (shiftf b n) (Vector.replicate 16 0) k).setIfInBounds k (shl8 (gv b (k + (n / 8))) ((toU64 (((n : Nat) : Int) % 8)).toNat)))) 22), (b4, .cells (BV (Vector.replicate 16 0)) 22), (b2, .cells (BV b) 255)] w)<|have hS := hS.drew; jx hS fun jj =>dx 0 O (by kernel_rfl) (fun w hS =>mv O O O rr) jj<|dx 1 O (by kernel_rfl) (fun w hS =>ian k k un22 sz5 O O O O (by omega) (by omega) (by omega) rr) jj<|dx 2 O (by kernel_rfl) (fun w hS =>lo 0 sc5 hS O O O O (BV_get _ k (by omega)) rr) jj<|dx 3 O (by kernel_rfl) (fun w hS =>mv O O O rr) jj<|dx 4 O (by kernel_rfl) (fun w hS =>addi (by omega) (by omega) O O O O rr) jj<|dx 5 O (by kernel_rfl) (fun w hS =>ian ((k + (n / 8)) + 1) (((k + (n / 8)) + 1)) un255 sz5 O O O O (by omega) (by omega) (by omega) rr) jj<|dx 6 O (by kernel_rfl) (fun w hS =>lo 2 sc5 hS O O O O (BV_get _ ((k + (n / 8)) + 1) (by omega)) rr) jj<|dx 7 O (by kernel_rfl) (fun w hS =>mv O O O rr) jj<|dx 8 O (by kernel_rfl) (fun w hS =>sub64 (p := (8 : UInt64)) O O O O rr) jj<|dx 9 O (by kernel_rfl) (fun w hS =>shrn8 ((8 - (toU64 (((n : Nat) : Int) % 8))).toNat) (by omega) O O O O rr) jj ?_
   refine dx 10 O (by kernel_rfl) (fun w hS =>or8 O O O O rr) jj ?_
   refine dl 11 O (by kernel_rfl)<|ian k k un22 sz5 O O O O (by omega) (by omega) (by omega)<|ly O ?_
   refine dl 12 O (by kernel_rfl)<|st (cs' := BV (fill8 16 (shiftf b n) (Vector.replicate 16 0) (k + 1))) 0 sz5 hS O O O O O O (by rw [BV_size]; omega) (by rw [BV_set]; exact congrArg BV (sh_t hz (by omega))) fun w hS =>ly O<|de (by kernel_rfl)<|q_block_norm<|wt<|wc_region<|addi (by omega) (by omega) O O O O<|mv O O O ?_
   refine again_q (k + 1) ⟨O, O, O, O, lkI O (by first | omega | rfl), trivial⟩ ⟨by omega, hS⟩ (by omega)
  ·try simp only [SB] at hc2
   have hz : ¬ 0 < n % 8 := by have e := toU64_nat (n % 8) (by omega); have hc := hc2; rw [show ((n : Int) % 8) = ((n % 8 : Nat) : Int) from by omega] at hc; omega
   have hS := sh_end hS hz
   refine wc_skip<|q_block_norm<|wt<|wc_region<|addi (by omega) (by omega) O O O O<|mv O O O ?_
   refine again_q (k + 1) ⟨O, O, O, O, lkI O (by first | omega | rfl), trivial⟩ ⟨by omega, hS⟩ (by omega)
 ·try simp only [SB] at hc1
  refine wc_exit<|q_then_exit<|q_then_exit<|q_block_hit<|wt<|rg<|la 0 ag22 hS O O O O (BV_size _)<|sa 1 ag22 hS O O O (BV_one _) O (BV_size _) (BV_size _) fun w hS =>wt<|wc_ret<|fin1 (v := .agg (BV (fill8 16 (shiftf b n) (Vector.replicate 16 0) k))) O ⟨_, O, lv_a ag22 (hS.get 1 O) (BV_size _)⟩ ?_
  refine ⟨?_, hS.drop⟩
  have hk4 : k = 16 := by omega
  subst hk4; rw [fill8_n]; rfl
theorem sp_offset_Bottom (nonce : V8 12) (w0 : World) : Calls Tryz.prog 171 #[.agg (BV nonce)] w0 (Ret w0 (I ((botN nonce : Nat) : Int))) := by
 refine enter (args := [.agg (BV nonce)]) Tryz.func171 O O<|startw fun w hS =>rg<|bxa hS O O O fun b1 w hb1 hS =>asg O O O<|wt<|rg<|ian 11 11 un173 sz5 O O O O (by omega) (by omega) (by omega)<|lo 0 sc5 hS O O O O (BV_get _ 11 (by omega))<|and8 (q := (63 : UInt8)) O O O O<|cvi un3 ⟨_, un5⟩ (by have := ((gv nonce 11) &&& 63).toNat_lt; omega) (by have := ((gv nonce 11) &&& 63).toNat_lt; omega) O O O<|asg O O O ?_
 refine wt<|wc_ret<|fin1 (v := I ((((gv nonce 11) &&& 63).toNat : Int))) O O ?_
 exact ⟨rfl, hS.drop⟩
theorem sp_offset_whole (nonce : V8 12) (w0 : World) : Calls Tryz.prog 200 #[.agg (BV nonce)] w0 (Ret w0 (.agg (BV (wholeV nonce)))) := by
 refine enter (args := [.agg (BV nonce)]) Tryz.func200 O O<|startw fun w hS =>rg<|bxa hS O O O fun b1 w hb1 hS =>ala zr22 hS O O fun b2 w hb2 hS =>wt<|rg<|bd (cs := BV ((Vector.replicate 16 0).setIfInBounds 3 1)) O O O ((bu22 _).trans (fill_1 (off := 3) O O (le_sz (a := 16) (BV_size _) (by omega)) (BV_set _ _ (1 : UInt8))<|O))<|ala zr22 hS O O fun b3 w hb3 hS =>sa 0 ag22 hS O O O (BV_one _) O (BV_size _) (BV_size _) fun w hS =>wt<|rd mo 2 (fun w =>St w0 [] [(b1, .cells (BV nonce) 173)] w) ?_
 have hS := hS.drew
 refine jx (hS.sl 3 4) fun jj =>dx 0 O (by kernel_rfl) (fun w hS =>a_ln 4 4 un22 sz5 O O O O (by omega) (by omega) (by omega) rr) jj<|dx 1 O (by kernel_rfl) (fun w hS =>a_all un173 ⟨_, sz5⟩ O O O rr) jj ?_
 refine dl 2 O (by kernel_rfl)<|cpy (cs' := BV (wholeV nonce)) (q := 12) (bs := nonce.toList) 0 sl30 hS O O O O O (Cel.bv (hS.get 2 O)) Vector.length_toList (by first | rfl | (simp only [Nat.min_def]; split <;> omega)) (le_sz (BV_size _) (by omega)) (cp_all _ 4 12 nonce.toList (by simp) (by simp)) fun w hS =>ly O<|de (by kernel_rfl)<|wt<|rg<|la 0 ag22 hS O O O O (BV_size _)<|sa 1 ag22 hS O O O (BV_one _) O (BV_size _) (BV_size _) fun w hS =>wt<|wc_ret<|fin1 (v := .agg (BV (wholeV nonce))) O ⟨_, O, lv_a ag22 (hS.get 1 O) (BV_size _)⟩ ?_
 exact ⟨rfl, hS.drop⟩
theorem sp_offset_Top (t c : Nat) (key : V8 16) (nonce : V8 12) (w0 : World) (hT : TabAt w0 t c key) : Calls Tryz.prog 170 #[Ptr t 0, .agg (BV nonce)] w0 (Ret w0 (.agg (BV (topV key nonce)))) := by
 refine enter (args := [Ptr t 0, .agg (BV nonce)]) Tryz.func170 O O<|startw fun w hS =>?_
 obtain ⟨⟨T, hT1⟩, E, hC⟩ := id hT
 refine rg<|bxa hS O O O fun b3 w hb3 hS =>ala zr22 hS O O fun b4 w hb4 hS =>wt<|rg<|la 1 ag173 hS O O O O (BV_size _)<|cv cf200 hS O O O O O (sp_offset_whole nonce _) fun w hS =>ala zr22 hS O O fun b5 w hb5 hS =>sa 0 ag22 hS O O O (BV_one _) O (BV_size _) (BV_size _) fun w hS =>wt<|rg<|ian 15 15 un22 sz5 O O O O (by omega) (by omega) (by omega) ?_
 refine lo 0 sc5 hS O O O O (BV_get _ 15 (by omega))<|andn8 (q := (63 : UInt8)) O O O O<|ian 15 15 un22 sz5 O O O O (by omega) (by omega) (by omega)<|st 0 sz5 hS O O O O O O (by rw [BV_size]; omega) (BV_set _ _ ((gv (wholeV nonce) 15) &&& ~~~63 : UInt8)) fun w hS =>wt<|rd mo 4 (fun w =>St w0 [] [(b5, .cells (BV ((wholeV nonce).setIfInBounds 15 ((gv (wholeV nonce) 15) &&& ~~~63))) 22), (b4, .cells (BV (Vector.replicate 16 0)) 22), (b3, .cells (BV nonce) 173)] w)<|have hS := hS.drew; jx hS fun jj =>dx 0 O (by kernel_rfl) (fun w hS =>mv O O O rr) jj<|dx 2 O (by kernel_rfl) (fun w hS =>la 0 ag22 hS O O O O (BV_size _) rr) jj ?_
 refine dl 1 O (by kernel_rfl)<|cv cf144 hS O O O O O (sp_table_Table_Cipher t c key _ (hT.st hS)) fun w hS =>lx hS fun jj =>?_
 refine dl 3 O (by kernel_rfl)<|cv cf71 hS O O O O O (sp_fast_Cipher_Encrypt c _ key (((wholeV nonce).setIfInBounds 15 ((gv (wholeV nonce) 15) &&& ~~~63))) _ (hS.old hC List.not_mem_nil)) fun w hS =>lx hS fun jj =>?_
 refine dl 4 O (by kernel_rfl)<|sa 1 ag22 hS O O O (BV_one _) O (BV_size _) (BV_size _) fun w hS =>ly O<|de (by kernel_rfl)<|wt<|wc_ret<|fin1 (v := .agg (BV (enc key ((wholeV nonce).setIfInBounds 15 ((gv (wholeV nonce) 15) &&& ~~~63))))) O ⟨_, O, lv_a ag22 (hS.get 1 O) (BV_size _)⟩ ?_
 exact ⟨rfl, hS.drop⟩
theorem sp_offset_Stretch (b : V8 16) (w0 : World) : Calls Tryz.prog 169 #[.agg (BV b)] w0 (Ret w0 (.agg (BV (strL b 8)))) := by
 refine enter (args := [.agg (BV b)]) Tryz.func169 O O<|startw fun w hS =>rg<|bxa hS O O O fun b1 w hb1 hS =>ala zr255 hS O O fun b2 w hb2 hS =>wt<|rg<|ala zr255 hS O O fun b3 w hb3 hS =>wt<|rd mo 2 (fun w =>St w0 [] [(b1, .cells (BV b) 22)] w)<|have hS := hS.drew; jx (hS.sl 3 4) fun jj =>dx 0 O (by kernel_rfl) (fun w hS =>a_all un255 ⟨_, sz5⟩ O O O rr) jj ?_
 refine dx 1 O (by kernel_rfl) (fun w hS =>a_all un22 ⟨_, sz5⟩ O O O rr) jj ?_
 refine dl 2 O (by kernel_rfl)<|cpy (cs' := BV (strL b 0)) (q := 16) (bs := b.toList) 0 sl30 hS O O O O O (Cel.bv (hS.get 2 O)) Vector.length_toList (by first | rfl | (simp only [Nat.min_def]; split <;> omega)) (le_sz (BV_size _) (by omega)) (cp_all _ 0 16 b.toList (by simp) (by simp)) fun w hS =>ly O ?_
 refine dl 3 O (by kernel_rfl)<|asg O O O<|ly O<|de (by kernel_rfl)<|wt<|wc_seq<|rg<|mv O O O<|wt<|wc_block ?_
 refine wc_loop (σ := Nat) (fun k =>[(1, Ptr b1 0), (2, Ptr b2 0), (3, Ptr b3 0), (4, I ((16 : Int))), (9, I ((k : Int)))])
  (fun k w => (k ≤ 8) ∧ St w0 [] [(b3, .cells (BV (strL b k)) 255), (b2, .cells (BV (Vector.replicate 24 0)) 255), (b1, .cells (BV b) 22)] w) (fun k => 8 - k) 0 ⟨rfl, rfl, rfl, rfl, rfl, trivial⟩ ⟨by omega, hS⟩ ?_
 rintro k w ⟨hk, hS⟩
 refine rg<|lss O O O O<|wt<|wc_seq ?_
 refine wc_if O (fun hc1 =>?_) (fun hc1 =>?_)
 ·try simp only [SB] at hc1
  refine wc_skip<|wt<|wc_seq<|wc_block<|rg<|mv O O O<|asg O O O<|wt<|wc_draw mo 11 (fun w =>St w0 [] [(b1, .cells (BV b) 22)] w)<|have hS := hS.drew; jx (hS.sl 3 4) fun jj =>dx 0 O (by kernel_rfl) (fun w hS =>mv O O O rr) jj<|dx 1 O (by kernel_rfl) (fun w hS =>mv O O O rr) jj ?_
  refine dx 2 O (by kernel_rfl) (fun w hS =>addi (by omega) (by omega) O O O O rr) jj<|dx 3 O (by kernel_rfl) (fun w hS =>mv O O O rr) jj<|dx 4 O (by kernel_rfl) (fun w hS =>ian k k un22 sz5 O O O O (by omega) (by omega) (by omega) rr) jj<|dx 5 O (by kernel_rfl) (fun w hS =>lo 0 sc5 hS O O O O (BV_get _ k (by omega)) rr) jj<|dx 6 O (by kernel_rfl) (fun w hS =>mv O O O rr) jj<|dx 7 O (by kernel_rfl) (fun w hS =>addi (by omega) (by omega) O O O O rr) jj<|dx 8 O (by kernel_rfl) (fun w hS =>ian (k + 1) ((k + 1)) un22 sz5 O O O O (by omega) (by omega) (by omega) rr) jj<|dx 9 O (by kernel_rfl) (fun w hS =>lo 0 sc5 hS O O O O (BV_get _ (k + 1) (by omega)) rr) jj<|dx 10 O (by kernel_rfl) (fun w hS =>xor8 O O O O rr) jj ?_
  refine dl 11 O (by kernel_rfl)<|ian (16 + k) ((16 + k)) un255 sz5 O O O O (by omega) (by omega) (by omega)<|ly O ?_
  refine dl 12 O (by kernel_rfl)<|st 0 sz5 hS O O O O O O (by rw [BV_size]; omega) (BV_set _ _ ((gv b k) ^^^ (gv b (k + 1)) : UInt8)) fun w hS =>ly O<|de (by kernel_rfl)<|q_block_norm<|wt<|wc_region<|addi (by omega) (by omega) O O O O<|mv O O O ?_
  refine again_q (k + 1) ⟨O, O, O, O, lkI O (by first | omega | rfl), trivial⟩ ⟨by omega, hS⟩ (by omega)
 ·try simp only [SB] at hc1
  refine wc_exit<|q_then_exit<|q_then_exit<|q_block_hit<|wt<|rg<|la 0 ag255 hS O O O O (BV_size _)<|sa 1 ag255 hS O O O (BV_one _) O (BV_size _) (BV_size _) fun w hS =>wt<|wc_ret<|fin1 (v := .agg (BV (strL b k))) O ⟨_, O, lv_a ag255 (hS.get 1 O) (BV_size _)⟩ ?_
  refine ⟨?_, hS.drop⟩
  have hk8 : k = 8 := by omega
  subst hk8; rfl
theorem sp_offset_Start (t c : Nat) (key : V8 16) (nonce : V8 12) (w0 : World) (hT : TabAt w0 t c key) : Calls Tryz.prog 139 #[Ptr t 0, .agg (BV nonce)] w0 (Ret w0 (.agg (BV (startV key nonce)))) := by
 refine enter (args := [Ptr t 0, .agg (BV nonce)]) Tryz.func139 O O<|startw fun w hS =>?_
 obtain ⟨⟨T, hT1⟩, E, hC⟩ := id hT
 have hb := botN_lt nonce
 refine rg<|bxa hS O O O fun b3 w hb3 hS =>ala zr22 hS O O fun b4 w hb4 hS =>wt<|rd mo 7 (fun w =>St w0 [] [(b4, .cells (BV (Vector.replicate 16 0)) 22), (b3, .cells (BV nonce) 173)] w)<|have hS := hS.drew; jx hS fun jj =>dx 0 O (by kernel_rfl) (fun w hS =>mv O O O rr) jj<|dx 1 O (by kernel_rfl) (fun w hS =>la 1 ag173 hS O O O O (BV_size _) rr) jj<|dx 4 O (by kernel_rfl) (fun w hS =>la 1 ag173 hS O O O O (BV_size _) rr) jj ?_
 refine dl 2 O (by kernel_rfl)<|cv cf170 hS O O O O O (sp_offset_Top t c key nonce _ (hT.st hS)) fun w hS =>lx hS fun jj =>?_
 refine dl 3 O (by kernel_rfl)<|cv cf169 hS O O O O O (sp_offset_Stretch ((topV key nonce)) _) fun w hS =>lx hS fun jj =>?_
 refine dl 5 O (by kernel_rfl)<|cv cf171 hS O O O O O (sp_offset_Bottom nonce _) fun w hS =>lx hS fun jj =>?_
 refine dl 6 O (by kernel_rfl)<|cv cf168 hS O O O O O (sp_block_Shift ((strL (topV key nonce) 8)) ((botN nonce)) _ _ (by omega) (by omega)) fun w hS =>lx hS fun jj =>?_
 refine dl 7 O (by kernel_rfl)<|sa 0 ag22 hS O O O (BV_one _) O (BV_size _) (BV_size _) fun w hS =>ly O<|de (by kernel_rfl)<|wt<|wc_ret<|fin1 (v := .agg (BV (shiftV (strL (topV key nonce) 8) (botN nonce)))) O ⟨_, O, lv_a ag22 (hS.get 0 O) (BV_size _)⟩ ?_
 exact ⟨rfl, hS.drop⟩
theorem sp_seal_Crypt_1 (a : Option Addr) (n cap : Nat) (bs : List UInt8) (ob E : Nat) (oa : Option Addr) (on oc : Nat) (xs : List UInt8) (X : List (Nat × Obj)) (w0 : World) (hn : bs.length = n) (hN : on + n ≤ 2000000) (hc : Cel w0 a (c8 bs)) (hb : w0.heap[ob]? = some (.cells #[.slice oa on oc] E)) (hO : Own 1 oa on oc (c8 xs) X) (hX : ∀ p ∈ X, w0.heap[p.1]? = some p.2) (hd : (ob :: X.map Prod.fst).Nodup) : Calls Tryz.prog 140 #[.slice a n cap, Ptr ob 0] w0 fun e w' => ∃ a' c' X', (∃ v, e = .returned v) ∧ Own 1 a' (on + n) c' (c8 (xs ++ bs)) X' ∧ St w0 (ob :: X.map Prod.fst) ((ob, .cells #[.slice a' (on + n) c'] E) :: (X' ++ [])) w' := by
 refine enter (args := [.slice a n cap, Ptr ob 0]) Tryz.func140 O O ?_
 have hS : St w0 (ob :: X.map Prod.fst) ([(ob, .cells (#[.slice oa on oc]) E)] ++ (X ++ [])) w0 := by
  have h := St.start w0 ((ob, .cells #[.slice oa on oc] E) :: X) (fun p hp => by rcases List.mem_cons.1 hp with rfl | hp; exact hb; exact hX p hp) hd
  simpa using h
 refine wc_region<|lo 0 sc30 hS O O O O O<|mv O O O<|app (A := [(ob, .cells (#[.slice oa on oc]) E)]) (R := []) sl30 hO hS O O O O (src8 un30 _ hc (by first | rfl | omega | (simp; omega) | (simp; done))) (by omega) (by omega) fun a5 c5 X5 w hO5 hS =>?_
 try simp only [c8_app] at hO5
 refine st 0 sz30 hS O O O O O O Nat.zero_lt_one O fun w hS =>q_norm_ret<|fin0 O ?_
 exact ⟨_, _, _, ⟨_, rfl⟩, hO5, hS⟩
theorem sp_seal_Crypt (t c : Nat) (key : V8 16) (nonce : V8 12) (a : Option Addr) (n cap : Nat) (bs : List UInt8) (w0 : World) (hT : TabAt w0 t c key) (hn : bs.length = n) (hN : n ≤ 1000000) (hc : Cel w0 a (c8 bs)) (hcap : n ≤ cap) (hG : Gl 1 w0) : Calls Tryz.prog 116 #[Ptr t 0, .agg (BV nonce), .slice a n cap] w0 (RetS w0 (fun v X => ∃ a' c', v = .tuple #[.slice a' n c', .agg (BV (cryC bs)), .agg (BV (cryO key nonce n))] ∧ Own 1 a' n c' (c8 (cryT key nonce bs)) X)) := by
 refine enterM (args := [Ptr t 0, .agg (BV nonce), .slice a n cap]) Tryz.func116 O O<|startw fun w hS =>?_
 obtain ⟨⟨T, hT1⟩, E, hC⟩ := id hT
 refine rg<|bx1 hS O O O O fun b3 w hb3 hS =>bxa hS O O O fun b4 w hb4 hS =>al1 zr30 hS O O O fun b6 w hb6 hS =>ala zr22 hS O O fun b7 w hb7 hS =>ala zr22 hS O O fun b8 w hb8 hS =>wt<|rg<|lo 4 sc77 hS O O O O O<|la 3 ag173 hS O O O O (BV_size _)<|cv cf139 hS O O O O O (sp_offset_Start t c key nonce _ (hT.st hS)) fun w hS =>sa 0 ag22 hS O O O (BV_one _) O (BV_size _) (BV_size _) fun w hS =>?_
 refine wt<|rg<|mkf O O O<|al1 zr230 hS O O O fun b9 w hb9 hS =>st 0 sz230 hS O O O O O O Nat.zero_lt_one O fun w hS =>wt<|wc_seq<|rg<|mv O O O<|cs cf141 hS O O O O O (sp_block_All a n cap _) ?_
 rintro _ _ w ⟨b23, rfl, rfl⟩ hS
 refine wt<|wc_block ?_
 refine wc_range2 (m := 0) (fun k =>I ((k + 1 : Nat) : Int)) (fun k =>.agg (BV (blk bs k))) (n / 16) (fun W =>W.heap[b23]? = some (.cells #[.slice a n cap] 30) ∧ Cel W a (c8 bs)) (fun k L =>∃ s : Option Addr × Nat × List (Nat × Obj), (Own 1 s.1 (k * 16) s.2.1 (c8 (crT key nonce bs k)) s.2.2) ∧ L = ([(b23, .cells (#[(.slice a n cap)]) 30), (b9, .cells (#[.func (.func 140) #[] #[Ptr b6 0]]) 230), (b8, .cells (BV (crO key nonce k)) 22), (b7, .cells (BV (crC bs k)) 22), (b6, .cells (#[.slice s.1 (k * 16) s.2.1]) 30), (b4, .cells (BV nonce) 173), (b3, .cells (#[Ptr t 0]) 77)] ++ (s.2.2 ++ []))) O cf172 O O hS ⟨(none, 0, []), Own.nil 1, O⟩ ?_ ?_ ?_ ?_
 ·exact fun lp J W hJ hY h0 => sp_block_All_1 0 lp b23 _ n cap a bs J hn hN hcap hJ hY W h0
 ·exact fun k L' W hL hS => by obtain ⟨s, hinv, rfl⟩ := hL; exact ⟨hS.get 0 rfl, hc.st hS⟩
 ·rintro k lp D r _ w hr hp hk ⟨s, hO, rfl⟩ hS
  have hS : St w0 [] ([(lp, .loop r), (D, .deferred (some [])), (b23, .cells (#[(.slice a n cap)]) 30), (b9, .cells (#[.func (.func 140) #[] #[Ptr b6 0]]) 230), (b8, .cells (BV (crO key nonce k)) 22), (b7, .cells (BV (crC bs k)) 22), (b6, .cells (#[.slice s.1 (k * 16) s.2.1]) 30), (b4, .cells (BV nonce) 173), (b3, .cells (#[Ptr t 0]) 77)] ++ (s.2.2 ++ [])) w := hS
  have hx := toU64_ne (k + 1) (by omega) (by omega)
  refine rgi ?_
  refine wi O (asg O O O ?_)
  refine wqi_then<|wci_region ?_
  refine wi O (ala zr22 hS O O ?_)
  intro b11 w hb11 hS
  refine wi O (sa 0 ag22 hS O O O (BV_one _) O (BV_size _) (BV_size _) ?_)
  intro w hS
  refine begin_q 1 hS O hr (fun w hS =>wk_ci ?_)
  refine wci_block<|rgi ?_
  refine wi O (lo 9 sc77 hS O O O O O ?_)
  refine wi O (la 5 ag22 hS O O O O (BV_size _) ?_)
  refine wi O (mv O O O ?_)
  refine wi O (cvu64 un24 ⟨_, un3⟩ O O O ?_)
  refine wi O (cv (v := .agg (BV (crO key nonce (k + 1)))) cf142 hS O O O O O (sp_offset_Next t c key ((crO key nonce k)) ((toU64 (((k + 1 : Nat) : Int)))) _ (hT.st hS) (by assumption) (hG.st hS)) ?_)
  intro w hS
  refine wi O (sa 5 ag22 hS O O O (BV_one _) O (BV_size _) (BV_size _) ?_)
  intro w hS
  refine wqi_then <| rdi mo (by kernel_rfl) 9 (fun w => St w0 [] ([(b11, .cells (BV (blk bs k)) 22), (lp, .loop { r with state := .busy }), (D, .deferred (some [])), (b23, .cells (#[(.slice a n cap)]) 30), (b9, .cells (#[.func (.func 140) #[] #[Ptr b6 0]]) 230), (b8, .cells (BV (crO key nonce (k + 1))) 22), (b7, .cells (BV (crC bs k)) 22), (b6, .cells (#[.slice s.1 (k * 16) s.2.1]) 30), (b4, .cells (BV nonce) 173), (b3, .cells (#[Ptr t 0]) 77)] ++ (s.2.2 ++ [])) w) <| have hS := hS.drew; jx hS fun jj => dx 0 rfl (by kernel_rfl) (fun w hS => la 5 ag22 hS rfl rfl rfl rfl (BV_size _) rr) jj <| dx 1 rfl (by kernel_rfl) (fun w hS => lo 9 sc77 hS rfl rfl rfl rfl rfl rr) jj <| dx 3 rfl (by kernel_rfl) (fun w hS => la 0 ag22 hS rfl rfl rfl rfl (BV_size _) rr) jj <| dx 4 rfl (by kernel_rfl) (fun w hS => la 5 ag22 hS rfl rfl rfl rfl (BV_size _) rr) jj ?_
  refine dl2 2 8 O O (by kernel_rfl) ?_ ?_
  ·refine cv cf144 hS O O O O O (sp_table_Table_Cipher t c key _ (hT.st hS)) fun w hS =>lx hS fun jj =>?_
   refine dl2 5 8 O O (by kernel_rfl) ?_ ?_
   ·refine cv cf143 hS O O O O O (sp_block_Xor ((blk bs k)) ((crO key nonce (k + 1))) _) fun w hS =>lx hS fun jj =>?_
    refine dl2 6 8 O O (by kernel_rfl) ?_ ?_
    ·refine cv cf71 hS O O O O O (sp_fast_Cipher_Encrypt c _ key ((xorV (blk bs k) (crO key nonce (k + 1)))) _ (hS.old hC List.not_mem_nil)) fun w hS =>lx hS fun jj =>?_
     refine dl2 7 8 O O (by kernel_rfl) ?_ ?_
     ·refine cv (v := .agg (BV (crB key nonce bs k))) cf143 hS O O O O O (sp_block_Xor ((crO key nonce (k + 1))) ((enc key (xorV (blk bs k) (crO key nonce (k + 1))))) _) fun w hS =>lx hS fun jj =>?_
      refine dl 8 O (by kernel_rfl)<|ala zr22 hS O O fun b12 w hb12 hS =>lx hS.tl fun jj =>?_
      refine dl 9 rfl (by kernel_rfl) <| sa 0 ag22 hS rfl rfl rfl (BV_one _) rfl (BV_size _) (BV_size _) fun w hS => ly rfl <| de (by kernel_rfl) <| wqi_then <| rdi mo (by kernel_rfl) 2 (fun w => St w0 [] ([(b12, .cells (BV (crB key nonce bs k)) 22), (b11, .cells (BV (blk bs k)) 22), (lp, .loop { r with state := .busy }), (D, .deferred (some [])), (b23, .cells (#[(.slice a n cap)]) 30), (b9, .cells (#[.func (.func 140) #[] #[Ptr b6 0]]) 230), (b8, .cells (BV (crO key nonce (k + 1))) 22), (b7, .cells (BV (crC bs k)) 22), (b6, .cells (#[.slice s.1 (k * 16) s.2.1]) 30), (b4, .cells (BV nonce) 173), (b3, .cells (#[Ptr t 0]) 77)] ++ (s.2.2 ++ [])) w) <| have hS := hS.drew; jx hS fun jj => dx 0 rfl (by kernel_rfl) (fun w hS => lo 5 sc230 hS rfl rfl rfl rfl rfl rr) jj <| dx 1 rfl (by kernel_rfl) (fun w hS => a_all un22 ⟨_, sz5⟩ rfl rfl rfl rr) jj ?_
      refine dl 2 rfl (by kernel_rfl) <| cl cf140 rfl rfl rfl rfl rfl (sp_seal_Crypt_1 (some ⟨b12, 0, none⟩) 16 16 ((crB key nonce bs k).toList) _ _ s.1 (k * 16) s.2.1 (crT key nonce bs k) s.2.2 _ Vector.length_toList (by omega) (Cel.bv (hS.get 0 rfl)) (hS.get 8 rfl) hO (fun p hp => (hS.own p (by simp [hp])).2) (St.nd (A := [(b12, .cells (BV (crB key nonce bs k)) 22), (b11, .cells (BV (blk bs k)) 22), (lp, .loop { r with state := .busy }), (D, .deferred (some [])), (b23, .cells (#[(.slice a n cap)]) 30), (b9, .cells (#[.func (.func 140) #[] #[Ptr b6 0]]) 230), (b8, .cells (BV (crO key nonce (k + 1))) 22), (b7, .cells (BV (crC bs k)) 22), (b6, .cells (#[.slice s.1 (k * 16) s.2.1]) 30), (b4, .cells (BV nonce) 173), (b3, .cells (#[Ptr t 0]) 77)]) (R := []) (i := 8) hS rfl)) ?_
      rintro _ w ⟨a41, c41, X41, ⟨v41, rfl⟩, hO41, hS1⟩
      refine ⟨_, O, ?_⟩
      have hS : St w0 [] ([(b12, .cells (BV (crB key nonce bs k)) 22), (b11, .cells (BV (blk bs k)) 22), (lp, .loop { r with state := .busy }), (D, .deferred (some [])), (b23, .cells (#[(.slice a n cap)]) 30), (b9, .cells (#[.func (.func 140) #[] #[Ptr b6 0]]) 230), (b8, .cells (BV (crO key nonce (k + 1))) 22), (b7, .cells (BV (crC bs k)) 22), (b6, .cells (#[.slice a41 ((k * 16) + 16) c41]) 30), (b4, .cells (BV nonce) 173), (b3, .cells (#[Ptr t 0]) 77)] ++ (X41 ++ [])) w := St.call_out (A := [(b12, .cells (BV (crB key nonce bs k)) 22), (b11, .cells (BV (blk bs k)) 22), (lp, .loop { r with state := .busy }), (D, .deferred (some [])), (b23, .cells (#[(.slice a n cap)]) 30), (b9, .cells (#[.func (.func 140) #[] #[Ptr b6 0]]) 230), (b8, .cells (BV (crO key nonce (k + 1))) 22), (b7, .cells (BV (crC bs k)) 22), (b6, .cells (#[.slice s.1 (k * 16) s.2.1]) 30), (b4, .cells (BV nonce) 173), (b3, .cells (#[Ptr t 0]) 77)]) (i := 8) hS rfl hS1
      refine ly O<|de (by kernel_rfl)<|wqi_then<|wci_region ?_
      refine wi O (la 7 ag22 hS O O O O (BV_size _) ?_)
      refine wi O (la 1 ag22 hS O O O O (BV_size _) ?_)
      refine wi O (cv cf143 hS O O O O O (sp_block_Xor ((crC bs k)) ((blk bs k)) _) ?_)
      intro w hS
      refine wi O (sa 7 ag22 hS O O O (BV_one _) O (BV_size _) (BV_size _) ?_)
      intro w hS
      refine q_block_norm ?_
      refine end_q 2 hS O hr hp (fun w hS =>?_)
      have e16 : k * 16 + 16 = (k + 1) * 16 := by omega
      rw [e16] at hS hO41
      exact ⟨rfl, _, ⟨(a41, c41, X41), hO41, rfl⟩, hS.tl.tl⟩
     ·refine ala zr22 hS O O fun b12 w hb12 hS =>lx hS.tl fun jj =>?_
      refine dl 7 O (by kernel_rfl)<|cv (v := .agg (BV (crB key nonce bs k))) cf143 hS O O O O O (sp_block_Xor ((crO key nonce (k + 1))) ((enc key (xorV (blk bs k) (crO key nonce (k + 1))))) _) fun w hS =>lx hS.tl fun jj =>?_
      refine dl 9 rfl (by kernel_rfl) <| sa 0 ag22 hS rfl rfl rfl (BV_one _) rfl (BV_size _) (BV_size _) fun w hS => ly rfl <| de (by kernel_rfl) <| wqi_then <| rdi mo (by kernel_rfl) 2 (fun w => St w0 [] ([(b12, .cells (BV (crB key nonce bs k)) 22), (b11, .cells (BV (blk bs k)) 22), (lp, .loop { r with state := .busy }), (D, .deferred (some [])), (b23, .cells (#[(.slice a n cap)]) 30), (b9, .cells (#[.func (.func 140) #[] #[Ptr b6 0]]) 230), (b8, .cells (BV (crO key nonce (k + 1))) 22), (b7, .cells (BV (crC bs k)) 22), (b6, .cells (#[.slice s.1 (k * 16) s.2.1]) 30), (b4, .cells (BV nonce) 173), (b3, .cells (#[Ptr t 0]) 77)] ++ (s.2.2 ++ [])) w) <| have hS := hS.drew; jx hS fun jj => dx 0 rfl (by kernel_rfl) (fun w hS => lo 5 sc230 hS rfl rfl rfl rfl rfl rr) jj <| dx 1 rfl (by kernel_rfl) (fun w hS => a_all un22 ⟨_, sz5⟩ rfl rfl rfl rr) jj ?_
      refine dl 2 rfl (by kernel_rfl) <| cl cf140 rfl rfl rfl rfl rfl (sp_seal_Crypt_1 (some ⟨b12, 0, none⟩) 16 16 ((crB key nonce bs k).toList) _ _ s.1 (k * 16) s.2.1 (crT key nonce bs k) s.2.2 _ Vector.length_toList (by omega) (Cel.bv (hS.get 0 rfl)) (hS.get 8 rfl) hO (fun p hp => (hS.own p (by simp [hp])).2) (St.nd (A := [(b12, .cells (BV (crB key nonce bs k)) 22), (b11, .cells (BV (blk bs k)) 22), (lp, .loop { r with state := .busy }), (D, .deferred (some [])), (b23, .cells (#[(.slice a n cap)]) 30), (b9, .cells (#[.func (.func 140) #[] #[Ptr b6 0]]) 230), (b8, .cells (BV (crO key nonce (k + 1))) 22), (b7, .cells (BV (crC bs k)) 22), (b6, .cells (#[.slice s.1 (k * 16) s.2.1]) 30), (b4, .cells (BV nonce) 173), (b3, .cells (#[Ptr t 0]) 77)]) (R := []) (i := 8) hS rfl)) ?_
      rintro _ w ⟨a41, c41, X41, ⟨v41, rfl⟩, hO41, hS1⟩
      refine ⟨_, O, ?_⟩
      have hS : St w0 [] ([(b12, .cells (BV (crB key nonce bs k)) 22), (b11, .cells (BV (blk bs k)) 22), (lp, .loop { r with state := .busy }), (D, .deferred (some [])), (b23, .cells (#[(.slice a n cap)]) 30), (b9, .cells (#[.func (.func 140) #[] #[Ptr b6 0]]) 230), (b8, .cells (BV (crO key nonce (k + 1))) 22), (b7, .cells (BV (crC bs k)) 22), (b6, .cells (#[.slice a41 ((k * 16) + 16) c41]) 30), (b4, .cells (BV nonce) 173), (b3, .cells (#[Ptr t 0]) 77)] ++ (X41 ++ [])) w := St.call_out (A := [(b12, .cells (BV (crB key nonce bs k)) 22), (b11, .cells (BV (blk bs k)) 22), (lp, .loop { r with state := .busy }), (D, .deferred (some [])), (b23, .cells (#[(.slice a n cap)]) 30), (b9, .cells (#[.func (.func 140) #[] #[Ptr b6 0]]) 230), (b8, .cells (BV (crO key nonce (k + 1))) 22), (b7, .cells (BV (crC bs k)) 22), (b6, .cells (#[.slice s.1 (k * 16) s.2.1]) 30), (b4, .cells (BV nonce) 173), (b3, .cells (#[Ptr t 0]) 77)]) (i := 8) hS rfl hS1
      refine ly O<|de (by kernel_rfl)<|wqi_then<|wci_region ?_
      refine wi O (la 7 ag22 hS O O O O (BV_size _) ?_)
      refine wi O (la 1 ag22 hS O O O O (BV_size _) ?_)
      refine wi O (cv cf143 hS O O O O O (sp_block_Xor ((crC bs k)) ((blk bs k)) _) ?_)
      intro w hS
      refine wi O (sa 7 ag22 hS O O O (BV_one _) O (BV_size _) (BV_size _) ?_)
      intro w hS
      refine q_block_norm ?_
      refine end_q 2 hS O hr hp (fun w hS =>?_)
      have e16 : k * 16 + 16 = (k + 1) * 16 := by omega
      rw [e16] at hS hO41
      exact ⟨rfl, _, ⟨(a41, c41, X41), hO41, rfl⟩, hS.tl.tl⟩
    ·refine ala zr22 hS O O fun b12 w hb12 hS =>lx hS.tl fun jj =>?_
     refine dl 6 O (by kernel_rfl)<|cv cf71 hS O O O O O (sp_fast_Cipher_Encrypt c _ key ((xorV (blk bs k) (crO key nonce (k + 1)))) _ (hS.old hC List.not_mem_nil)) fun w hS =>lx hS.tl fun jj =>?_
     refine dl 7 O (by kernel_rfl)<|cv (v := .agg (BV (crB key nonce bs k))) cf143 hS O O O O O (sp_block_Xor ((crO key nonce (k + 1))) ((enc key (xorV (blk bs k) (crO key nonce (k + 1))))) _) fun w hS =>lx hS.tl fun jj =>?_
     refine dl 9 rfl (by kernel_rfl) <| sa 0 ag22 hS rfl rfl rfl (BV_one _) rfl (BV_size _) (BV_size _) fun w hS => ly rfl <| de (by kernel_rfl) <| wqi_then <| rdi mo (by kernel_rfl) 2 (fun w => St w0 [] ([(b12, .cells (BV (crB key nonce bs k)) 22), (b11, .cells (BV (blk bs k)) 22), (lp, .loop { r with state := .busy }), (D, .deferred (some [])), (b23, .cells (#[(.slice a n cap)]) 30), (b9, .cells (#[.func (.func 140) #[] #[Ptr b6 0]]) 230), (b8, .cells (BV (crO key nonce (k + 1))) 22), (b7, .cells (BV (crC bs k)) 22), (b6, .cells (#[.slice s.1 (k * 16) s.2.1]) 30), (b4, .cells (BV nonce) 173), (b3, .cells (#[Ptr t 0]) 77)] ++ (s.2.2 ++ [])) w) <| have hS := hS.drew; jx hS fun jj => dx 0 rfl (by kernel_rfl) (fun w hS => lo 5 sc230 hS rfl rfl rfl rfl rfl rr) jj <| dx 1 rfl (by kernel_rfl) (fun w hS => a_all un22 ⟨_, sz5⟩ rfl rfl rfl rr) jj ?_
     refine dl 2 rfl (by kernel_rfl) <| cl cf140 rfl rfl rfl rfl rfl (sp_seal_Crypt_1 (some ⟨b12, 0, none⟩) 16 16 ((crB key nonce bs k).toList) _ _ s.1 (k * 16) s.2.1 (crT key nonce bs k) s.2.2 _ Vector.length_toList (by omega) (Cel.bv (hS.get 0 rfl)) (hS.get 8 rfl) hO (fun p hp => (hS.own p (by simp [hp])).2) (St.nd (A := [(b12, .cells (BV (crB key nonce bs k)) 22), (b11, .cells (BV (blk bs k)) 22), (lp, .loop { r with state := .busy }), (D, .deferred (some [])), (b23, .cells (#[(.slice a n cap)]) 30), (b9, .cells (#[.func (.func 140) #[] #[Ptr b6 0]]) 230), (b8, .cells (BV (crO key nonce (k + 1))) 22), (b7, .cells (BV (crC bs k)) 22), (b6, .cells (#[.slice s.1 (k * 16) s.2.1]) 30), (b4, .cells (BV nonce) 173), (b3, .cells (#[Ptr t 0]) 77)]) (R := []) (i := 8) hS rfl)) ?_
     rintro _ w ⟨a41, c41, X41, ⟨v41, rfl⟩, hO41, hS1⟩
     refine ⟨_, O, ?_⟩
     have hS : St w0 [] ([(b12, .cells (BV (crB key nonce bs k)) 22), (b11, .cells (BV (blk bs k)) 22), (lp, .loop { r with state := .busy }), (D, .deferred (some [])), (b23, .cells (#[(.slice a n cap)]) 30), (b9, .cells (#[.func (.func 140) #[] #[Ptr b6 0]]) 230), (b8, .cells (BV (crO key nonce (k + 1))) 22), (b7, .cells (BV (crC bs k)) 22), (b6, .cells (#[.slice a41 ((k * 16) + 16) c41]) 30), (b4, .cells (BV nonce) 173), (b3, .cells (#[Ptr t 0]) 77)] ++ (X41 ++ [])) w := St.call_out (A := [(b12, .cells (BV (crB key nonce bs k)) 22), (b11, .cells (BV (blk bs k)) 22), (lp, .loop { r with state := .busy }), (D, .deferred (some [])), (b23, .cells (#[(.slice a n cap)]) 30), (b9, .cells (#[.func (.func 140) #[] #[Ptr b6 0]]) 230), (b8, .cells (BV (crO key nonce (k + 1))) 22), (b7, .cells (BV (crC bs k)) 22), (b6, .cells (#[.slice s.1 (k * 16) s.2.1]) 30), (b4, .cells (BV nonce) 173), (b3, .cells (#[Ptr t 0]) 77)]) (i := 8) hS rfl hS1
     refine ly O<|de (by kernel_rfl)<|wqi_then<|wci_region ?_
     refine wi O (la 7 ag22 hS O O O O (BV_size _) ?_)
     refine wi O (la 1 ag22 hS O O O O (BV_size _) ?_)
     refine wi O (cv cf143 hS O O O O O (sp_block_Xor ((crC bs k)) ((blk bs k)) _) ?_)
     intro w hS
     refine wi O (sa 7 ag22 hS O O O (BV_one _) O (BV_size _) (BV_size _) ?_)
     intro w hS
     refine q_block_norm ?_
     refine end_q 2 hS O hr hp (fun w hS =>?_)
     have e16 : k * 16 + 16 = (k + 1) * 16 := by omega
     rw [e16] at hS hO41
     exact ⟨rfl, _, ⟨(a41, c41, X41), hO41, rfl⟩, hS.tl.tl⟩
   ·refine ala zr22 hS O O fun b12 w hb12 hS =>lx hS.tl fun jj =>?_
    refine dl 5 O (by kernel_rfl)<|cv cf143 hS O O O O O (sp_block_Xor ((blk bs k)) ((crO key nonce (k + 1))) _) fun w hS =>lx hS.tl fun jj =>?_
    refine dl 6 O (by kernel_rfl)<|cv cf71 hS O O O O O (sp_fast_Cipher_Encrypt c _ key ((xorV (blk bs k) (crO key nonce (k + 1)))) _ (hS.old hC List.not_mem_nil)) fun w hS =>lx hS.tl fun jj =>?_
    refine dl 7 O (by kernel_rfl)<|cv (v := .agg (BV (crB key nonce bs k))) cf143 hS O O O O O (sp_block_Xor ((crO key nonce (k + 1))) ((enc key (xorV (blk bs k) (crO key nonce (k + 1))))) _) fun w hS =>lx hS.tl fun jj =>?_
    refine dl 9 rfl (by kernel_rfl) <| sa 0 ag22 hS rfl rfl rfl (BV_one _) rfl (BV_size _) (BV_size _) fun w hS => ly rfl <| de (by kernel_rfl) <| wqi_then <| rdi mo (by kernel_rfl) 2 (fun w => St w0 [] ([(b12, .cells (BV (crB key nonce bs k)) 22), (b11, .cells (BV (blk bs k)) 22), (lp, .loop { r with state := .busy }), (D, .deferred (some [])), (b23, .cells (#[(.slice a n cap)]) 30), (b9, .cells (#[.func (.func 140) #[] #[Ptr b6 0]]) 230), (b8, .cells (BV (crO key nonce (k + 1))) 22), (b7, .cells (BV (crC bs k)) 22), (b6, .cells (#[.slice s.1 (k * 16) s.2.1]) 30), (b4, .cells (BV nonce) 173), (b3, .cells (#[Ptr t 0]) 77)] ++ (s.2.2 ++ [])) w) <| have hS := hS.drew; jx hS fun jj => dx 0 rfl (by kernel_rfl) (fun w hS => lo 5 sc230 hS rfl rfl rfl rfl rfl rr) jj <| dx 1 rfl (by kernel_rfl) (fun w hS => a_all un22 ⟨_, sz5⟩ rfl rfl rfl rr) jj ?_
    refine dl 2 rfl (by kernel_rfl) <| cl cf140 rfl rfl rfl rfl rfl (sp_seal_Crypt_1 (some ⟨b12, 0, none⟩) 16 16 ((crB key nonce bs k).toList) _ _ s.1 (k * 16) s.2.1 (crT key nonce bs k) s.2.2 _ Vector.length_toList (by omega) (Cel.bv (hS.get 0 rfl)) (hS.get 8 rfl) hO (fun p hp => (hS.own p (by simp [hp])).2) (St.nd (A := [(b12, .cells (BV (crB key nonce bs k)) 22), (b11, .cells (BV (blk bs k)) 22), (lp, .loop { r with state := .busy }), (D, .deferred (some [])), (b23, .cells (#[(.slice a n cap)]) 30), (b9, .cells (#[.func (.func 140) #[] #[Ptr b6 0]]) 230), (b8, .cells (BV (crO key nonce (k + 1))) 22), (b7, .cells (BV (crC bs k)) 22), (b6, .cells (#[.slice s.1 (k * 16) s.2.1]) 30), (b4, .cells (BV nonce) 173), (b3, .cells (#[Ptr t 0]) 77)]) (R := []) (i := 8) hS rfl)) ?_
    rintro _ w ⟨a41, c41, X41, ⟨v41, rfl⟩, hO41, hS1⟩
    refine ⟨_, O, ?_⟩
    have hS : St w0 [] ([(b12, .cells (BV (crB key nonce bs k)) 22), (b11, .cells (BV (blk bs k)) 22), (lp, .loop { r with state := .busy }), (D, .deferred (some [])), (b23, .cells (#[(.slice a n cap)]) 30), (b9, .cells (#[.func (.func 140) #[] #[Ptr b6 0]]) 230), (b8, .cells (BV (crO key nonce (k + 1))) 22), (b7, .cells (BV (crC bs k)) 22), (b6, .cells (#[.slice a41 ((k * 16) + 16) c41]) 30), (b4, .cells (BV nonce) 173), (b3, .cells (#[Ptr t 0]) 77)] ++ (X41 ++ [])) w := St.call_out (A := [(b12, .cells (BV (crB key nonce bs k)) 22), (b11, .cells (BV (blk bs k)) 22), (lp, .loop { r with state := .busy }), (D, .deferred (some [])), (b23, .cells (#[(.slice a n cap)]) 30), (b9, .cells (#[.func (.func 140) #[] #[Ptr b6 0]]) 230), (b8, .cells (BV (crO key nonce (k + 1))) 22), (b7, .cells (BV (crC bs k)) 22), (b6, .cells (#[.slice s.1 (k * 16) s.2.1]) 30), (b4, .cells (BV nonce) 173), (b3, .cells (#[Ptr t 0]) 77)]) (i := 8) hS rfl hS1
    refine ly O<|de (by kernel_rfl)<|wqi_then<|wci_region ?_
    refine wi O (la 7 ag22 hS O O O O (BV_size _) ?_)
    refine wi O (la 1 ag22 hS O O O O (BV_size _) ?_)
    refine wi O (cv cf143 hS O O O O O (sp_block_Xor ((crC bs k)) ((blk bs k)) _) ?_)
    intro w hS
    refine wi O (sa 7 ag22 hS O O O (BV_one _) O (BV_size _) (BV_size _) ?_)
    intro w hS
    refine q_block_norm ?_
    refine end_q 2 hS O hr hp (fun w hS =>?_)
    have e16 : k * 16 + 16 = (k + 1) * 16 := by omega
    rw [e16] at hS hO41
    exact ⟨rfl, _, ⟨(a41, c41, X41), hO41, rfl⟩, hS.tl.tl⟩
  ·refine ala zr22 hS O O fun b12 w hb12 hS =>lx hS.tl fun jj =>?_
   refine dl 2 O (by kernel_rfl)<|cv cf144 hS O O O O O (sp_table_Table_Cipher t c key _ (hT.st hS)) fun w hS =>lx hS.tl fun jj =>?_
   refine dl 5 O (by kernel_rfl)<|cv cf143 hS O O O O O (sp_block_Xor ((blk bs k)) ((crO key nonce (k + 1))) _) fun w hS =>lx hS.tl fun jj =>?_
   refine dl 6 O (by kernel_rfl)<|cv cf71 hS O O O O O (sp_fast_Cipher_Encrypt c _ key ((xorV (blk bs k) (crO key nonce (k + 1)))) _ (hS.old hC List.not_mem_nil)) fun w hS =>lx hS.tl fun jj =>?_
   refine dl 7 O (by kernel_rfl)<|cv (v := .agg (BV (crB key nonce bs k))) cf143 hS O O O O O (sp_block_Xor ((crO key nonce (k + 1))) ((enc key (xorV (blk bs k) (crO key nonce (k + 1))))) _) fun w hS =>lx hS.tl fun jj =>?_
   refine dl 9 rfl (by kernel_rfl) <| sa 0 ag22 hS rfl rfl rfl (BV_one _) rfl (BV_size _) (BV_size _) fun w hS => ly rfl <| de (by kernel_rfl) <| wqi_then <| rdi mo (by kernel_rfl) 2 (fun w => St w0 [] ([(b12, .cells (BV (crB key nonce bs k)) 22), (b11, .cells (BV (blk bs k)) 22), (lp, .loop { r with state := .busy }), (D, .deferred (some [])), (b23, .cells (#[(.slice a n cap)]) 30), (b9, .cells (#[.func (.func 140) #[] #[Ptr b6 0]]) 230), (b8, .cells (BV (crO key nonce (k + 1))) 22), (b7, .cells (BV (crC bs k)) 22), (b6, .cells (#[.slice s.1 (k * 16) s.2.1]) 30), (b4, .cells (BV nonce) 173), (b3, .cells (#[Ptr t 0]) 77)] ++ (s.2.2 ++ [])) w) <| have hS := hS.drew; jx hS fun jj => dx 0 rfl (by kernel_rfl) (fun w hS => lo 5 sc230 hS rfl rfl rfl rfl rfl rr) jj <| dx 1 rfl (by kernel_rfl) (fun w hS => a_all un22 ⟨_, sz5⟩ rfl rfl rfl rr) jj ?_
   refine dl 2 rfl (by kernel_rfl) <| cl cf140 rfl rfl rfl rfl rfl (sp_seal_Crypt_1 (some ⟨b12, 0, none⟩) 16 16 ((crB key nonce bs k).toList) _ _ s.1 (k * 16) s.2.1 (crT key nonce bs k) s.2.2 _ Vector.length_toList (by omega) (Cel.bv (hS.get 0 rfl)) (hS.get 8 rfl) hO (fun p hp => (hS.own p (by simp [hp])).2) (St.nd (A := [(b12, .cells (BV (crB key nonce bs k)) 22), (b11, .cells (BV (blk bs k)) 22), (lp, .loop { r with state := .busy }), (D, .deferred (some [])), (b23, .cells (#[(.slice a n cap)]) 30), (b9, .cells (#[.func (.func 140) #[] #[Ptr b6 0]]) 230), (b8, .cells (BV (crO key nonce (k + 1))) 22), (b7, .cells (BV (crC bs k)) 22), (b6, .cells (#[.slice s.1 (k * 16) s.2.1]) 30), (b4, .cells (BV nonce) 173), (b3, .cells (#[Ptr t 0]) 77)]) (R := []) (i := 8) hS rfl)) ?_
   rintro _ w ⟨a41, c41, X41, ⟨v41, rfl⟩, hO41, hS1⟩
   refine ⟨_, O, ?_⟩
   have hS : St w0 [] ([(b12, .cells (BV (crB key nonce bs k)) 22), (b11, .cells (BV (blk bs k)) 22), (lp, .loop { r with state := .busy }), (D, .deferred (some [])), (b23, .cells (#[(.slice a n cap)]) 30), (b9, .cells (#[.func (.func 140) #[] #[Ptr b6 0]]) 230), (b8, .cells (BV (crO key nonce (k + 1))) 22), (b7, .cells (BV (crC bs k)) 22), (b6, .cells (#[.slice a41 ((k * 16) + 16) c41]) 30), (b4, .cells (BV nonce) 173), (b3, .cells (#[Ptr t 0]) 77)] ++ (X41 ++ [])) w := St.call_out (A := [(b12, .cells (BV (crB key nonce bs k)) 22), (b11, .cells (BV (blk bs k)) 22), (lp, .loop { r with state := .busy }), (D, .deferred (some [])), (b23, .cells (#[(.slice a n cap)]) 30), (b9, .cells (#[.func (.func 140) #[] #[Ptr b6 0]]) 230), (b8, .cells (BV (crO key nonce (k + 1))) 22), (b7, .cells (BV (crC bs k)) 22), (b6, .cells (#[.slice s.1 (k * 16) s.2.1]) 30), (b4, .cells (BV nonce) 173), (b3, .cells (#[Ptr t 0]) 77)]) (i := 8) hS rfl hS1
   refine ly O<|de (by kernel_rfl)<|wqi_then<|wci_region ?_
   refine wi O (la 7 ag22 hS O O O O (BV_size _) ?_)
   refine wi O (la 1 ag22 hS O O O O (BV_size _) ?_)
   refine wi O (cv cf143 hS O O O O O (sp_block_Xor ((crC bs k)) ((blk bs k)) _) ?_)
   intro w hS
   refine wi O (sa 7 ag22 hS O O O (BV_one _) O (BV_size _) (BV_size _) ?_)
   intro w hS
   refine q_block_norm ?_
   refine end_q 2 hS O hr hp (fun w hS =>?_)
   have e16 : k * 16 + 16 = (k + 1) * 16 := by omega
   rw [e16] at hS hO41
   exact ⟨rfl, _, ⟨(a41, c41, X41), hO41, rfl⟩, hS.tl.tl⟩
 ·rintro D _ w ⟨s, hO, rfl⟩ hS
  have hS : St w0 [] ([(D, .deferred (some [])), (b23, .cells (#[(.slice a n cap)]) 30), (b9, .cells (#[.func (.func 140) #[] #[Ptr b6 0]]) 230), (b8, .cells (BV (crO key nonce (n / 16))) 22), (b7, .cells (BV (crC bs (n / 16))) 22), (b6, .cells (#[.slice s.1 ((n / 16) * 16) s.2.1]) 30), (b4, .cells (BV nonce) 173), (b3, .cells (#[Ptr t 0]) 77)] ++ (s.2.2 ++ [])) w := hS
  refine q_block_norm<|wt<|rg<|mv O O O<|lo 5 sc30 hS O O O O O<|lens un30 O O O<|s_l ((n / 16) * 16) un30 sz5 O O O O (by omega) (by omega)<|asg O O O<|wt<|wc_seq<|rg<|mv O O O ?_
  refine lens un30 O O O<|eqi O O O O<|wt ?_
  refine wc_if O (fun hc1 =>?_) (fun hc1 =>?_)
  ·try simp only [SB] at hc1
   have hz : n / 16 * 16 = n := by omega
   refine rd mo 5 (fun w =>St w0 [] ([(D, .deferred (some [])), (b23, .cells (#[(.slice a n cap)]) 30), (b9, .cells (#[.func (.func 140) #[] #[Ptr b6 0]]) 230), (b8, .cells (BV (crO key nonce (n / 16))) 22), (b7, .cells (BV (crC bs (n / 16))) 22), (b6, .cells (#[.slice s.1 ((n / 16) * 16) s.2.1]) 30), (b4, .cells (BV nonce) 173), (b3, .cells (#[Ptr t 0]) 77)] ++ (s.2.2 ++ [])) w) ?_
   have hS := hS.drew
   refine jx hS fun jj =>dx 0 O (by kernel_rfl) (fun w hS =>lo 5 sc30 hS O O O O O rr) jj<|dx 1 O (by kernel_rfl) (fun w hS =>la 4 ag22 hS O O O O (BV_size _) rr) jj<|dx 2 O (by kernel_rfl) (fun w hS =>la 3 ag22 hS O O O O (BV_size _) rr) jj ?_
   refine dl 3 O (by kernel_rfl)<|st 5 sz30 hS O O O O O O Nat.zero_lt_one O fun w hS =>lx hS fun jj =>?_
   refine dl 4 O (by kernel_rfl)<|sa 4 ag22 hS O O O (BV_one _) O (BV_size _) (BV_size _) fun w hS =>lx hS fun jj =>?_
   refine dl 5 O (by kernel_rfl)<|sa 3 ag22 hS O O O (BV_one _) O (BV_size _) (BV_size _) fun w hS =>ly O<|de (by kernel_rfl)<|wt<|wc_ret<|q_then_ret ?_
   refine finM3 (v := .slice s.1 ((n / 16) * 16) s.2.1) (u := .agg (BV (crC bs (n / 16)))) (x := .agg (BV (crO key nonce (n / 16)))) 0 hS O O O (fun w hS =>⟨_, O, lv_c sc30 (hS.get 5 O) O⟩) (fun w hS =>⟨_, O, lv_a ag22 (hS.get 4 O) (BV_size _)⟩) (fun w hS =>⟨_, O, lv_a ag22 (hS.get 3 O) (BV_size _)⟩) (fun w hS =>?_)
   exact ⟨_, _, rfl, ⟨_, _, cry_z1 hn hz, cry_z2 hn hz hO⟩, hS.sublist (.cons _ (.cons _ (.cons _ (.cons _ (.cons _ (.cons _ (.cons _ (.cons _ (List.sublist_append_left s.2.2 [])))))))))⟩
  ·try simp only [SB] at hc1
   have hz : ¬ n / 16 * 16 = n := by omega
   refine wc_skip<|wt<|rd mo 4 (fun w =>St w0 [] ([(D, .deferred (some [])), (b23, .cells (#[(.slice a n cap)]) 30), (b9, .cells (#[.func (.func 140) #[] #[Ptr b6 0]]) 230), (b8, .cells (BV (crO key nonce (n / 16))) 22), (b7, .cells (BV (crC bs (n / 16))) 22), (b6, .cells (#[.slice s.1 ((n / 16) * 16) s.2.1]) 30), (b4, .cells (BV nonce) 173), (b3, .cells (#[Ptr t 0]) 77)] ++ (s.2.2 ++ [])) w) ?_
   have hS := hS.drew
   refine jx hS fun jj =>dx 0 O (by kernel_rfl) (fun w hS =>la 3 ag22 hS O O O O (BV_size _) rr) jj<|dx 1 O (by kernel_rfl) (fun w hS =>lo 7 sc77 hS O O O O O rr) jj ?_
   refine dl 2 O (by kernel_rfl)<|cv cf145 hS O O O O O (sp_table_Table_Star t c key _ (hT.st hS)) fun w hS =>lx hS fun jj =>?_
   refine dl 3 O (by kernel_rfl)<|cv cf143 hS O O O O O (sp_block_Xor ((crO key nonce (n / 16))) ((star key)) _) fun w hS =>lx hS fun jj =>?_
   refine dl 4 O (by kernel_rfl)<|sa 3 ag22 hS O O O (BV_one _) O (BV_size _) (BV_size _) fun w hS =>ly O<|de (by kernel_rfl)<|wt<|rd mo 5 (fun w =>St w0 [] ([(D, .deferred (some [])), (b23, .cells (#[(.slice a n cap)]) 30), (b9, .cells (#[.func (.func 140) #[] #[Ptr b6 0]]) 230), (b8, .cells (BV (xorV (crO key nonce (n / 16)) (star key))) 22), (b7, .cells (BV (crC bs (n / 16))) 22), (b6, .cells (#[.slice s.1 ((n / 16) * 16) s.2.1]) 30), (b4, .cells (BV nonce) 173), (b3, .cells (#[Ptr t 0]) 77)] ++ (s.2.2 ++ [])) w) ?_
   have hS := hS.drew
   refine jx hS fun jj =>dx 0 O (by kernel_rfl) (fun w hS =>lo 7 sc77 hS O O O O O rr) jj<|dx 2 O (by kernel_rfl) (fun w hS =>la 3 ag22 hS O O O O (BV_size _) rr) jj ?_
   refine dl2 1 4 O O (by kernel_rfl) ?_ ?_
   ·refine cv cf144 hS O O O O O (sp_table_Table_Cipher t c key _ (hT.st hS)) fun w hS =>lx hS fun jj =>?_
    refine dl2 3 4 O O (by kernel_rfl) ?_ ?_
    ·refine cv cf71 hS O O O O O (sp_fast_Cipher_Encrypt c _ key ((xorV (crO key nonce (n / 16)) (star key))) _ (hS.old hC List.not_mem_nil)) fun w hS =>lx hS fun jj =>?_
     refine dl 4 O (by kernel_rfl)<|ala zr22 hS O O fun b14 w hb14 hS =>lx hS.tl fun jj =>?_
     refine dl 5 O (by kernel_rfl)<|sa 0 ag22 hS O O O (BV_one _) O (BV_size _) (BV_size _) fun w hS =>ly O<|de (by kernel_rfl)<|wt<|rg<|mv O O O<|cv cf146 hS O O O O O (sp_block_Pad ((sla a ((n / 16) * 16) cap)) ((n - ((n / 16) * 16))) ((cap - ((n / 16) * 16))) (((bs).drop ((n / 16) * 16))) _ (by first | rfl | omega | (simp; omega) | (simp; done)) (by omega) ((hc.st hS).drop8 (lo := (n / 16) * 16) (cap := cap) (by first | omega | (simp; omega) | simp)) (by omega)) fun w hS =>mv O O O<|ext O O O O<|ext O O O O<|ala zr22 hS O O fun b15 w hb15 hS =>?_
     refine sa 0 ag22 hS O O O (BV_one _) O (BV_size _) (BV_size _) fun w hS =>asg O O O<|wt<|rg<|la 0 ag22 hS O O O O (BV_size _)<|la 1 ag22 hS O O O O (BV_size _)<|cv cf143 hS O O O O O (sp_block_Xor ((padV ((bs).drop ((n / 16) * 16)))) ((enc key (xorV (crO key nonce (n / 16)) (star key)))) _) fun w hS =>ala zr22 hS O O fun b17 w hb17 hS =>sa 0 ag22 hS O O O (BV_one _) O (BV_size _) (BV_size _) fun w hS =>wt<|rd mo 5 (fun w =>St w0 [] [(b17, .cells (BV (xorV (padV ((bs).drop ((n / 16) * 16))) (enc key (xorV (crO key nonce (n / 16)) (star key))))) 22), (b15, .cells (BV (padV ((bs).drop ((n / 16) * 16)))) 22), (b14, .cells (BV (enc key (xorV (crO key nonce (n / 16)) (star key)))) 22), (D, .deferred (some [])), (b23, .cells (#[(.slice a n cap)]) 30), (b9, .cells (#[.func (.func 140) #[] #[Ptr b6 0]]) 230), (b8, .cells (BV (xorV (crO key nonce (n / 16)) (star key))) 22), (b7, .cells (BV (crC bs (n / 16))) 22), (b4, .cells (BV nonce) 173), (b3, .cells (#[Ptr t 0]) 77)] w)<|have hS := hS.drew; jx (hS.sl 11 1791) fun jj =>?_
     refine dx 0 O (by kernel_rfl) (fun w hS =>lo 5 sc230 hS O O O O O rr) jj<|dx 1 O (by kernel_rfl) (fun w hS =>mv O O O rr) jj<|dx 2 O (by kernel_rfl) (fun w hS =>lens un30 O O O rr) jj<|dx 3 O (by kernel_rfl) (fun w hS =>a_h (n - ((n / 16) * 16)) un22 ⟨_, sz5⟩ O O O O (by omega) (by omega) rr) jj ?_
     refine dl 4 O (by kernel_rfl)<|cl cf140 O O O O O (sp_seal_Crypt_1 (some ⟨b17, 0, none⟩) (n - ((n / 16) * 16)) 16 (((xorV (padV ((bs).drop ((n / 16) * 16))) (enc key (xorV (crO key nonce (n / 16)) (star key)))).toList).take (n - ((n / 16) * 16))) _ _ s.1 ((n / 16) * 16) s.2.1 (crT key nonce bs (n / 16)) s.2.2 _ (by simp; omega) (by omega) ((Cel.bv (hS.get 0 O)).take8 (n - ((n / 16) * 16))) (hS.get 8 O) hO (fun p hp =>(hS.own p (by simp [hp])).2) (St.nd (A := [(b17, .cells (BV (xorV (padV ((bs).drop ((n / 16) * 16))) (enc key (xorV (crO key nonce (n / 16)) (star key))))) 22), (b15, .cells (BV (padV ((bs).drop ((n / 16) * 16)))) 22), (b14, .cells (BV (enc key (xorV (crO key nonce (n / 16)) (star key)))) 22), (D, .deferred (some [])), (b23, .cells (#[(.slice a n cap)]) 30), (b9, .cells (#[.func (.func 140) #[] #[Ptr b6 0]]) 230), (b8, .cells (BV (xorV (crO key nonce (n / 16)) (star key))) 22), (b7, .cells (BV (crC bs (n / 16))) 22), (b6, .cells (#[.slice s.1 ((n / 16) * 16) s.2.1]) 30), (b4, .cells (BV nonce) 173), (b3, .cells (#[Ptr t 0]) 77)]) (R := []) (i := 8) hS O)) ?_
     rintro _ w ⟨a75, c75, X75, ⟨v75, rfl⟩, hO75, hS1⟩
     refine ⟨_, O, ?_⟩
     have hS : St w0 [] ([(b17, .cells (BV (xorV (padV ((bs).drop ((n / 16) * 16))) (enc key (xorV (crO key nonce (n / 16)) (star key))))) 22), (b15, .cells (BV (padV ((bs).drop ((n / 16) * 16)))) 22), (b14, .cells (BV (enc key (xorV (crO key nonce (n / 16)) (star key)))) 22), (D, .deferred (some [])), (b23, .cells (#[(.slice a n cap)]) 30), (b9, .cells (#[.func (.func 140) #[] #[Ptr b6 0]]) 230), (b8, .cells (BV (xorV (crO key nonce (n / 16)) (star key))) 22), (b7, .cells (BV (crC bs (n / 16))) 22), (b6, .cells (#[.slice a75 (((n / 16) * 16) + (n - ((n / 16) * 16))) c75]) 30), (b4, .cells (BV nonce) 173), (b3, .cells (#[Ptr t 0]) 77)] ++ (X75 ++ [])) w := St.call_out (A := [(b17, .cells (BV (xorV (padV ((bs).drop ((n / 16) * 16))) (enc key (xorV (crO key nonce (n / 16)) (star key))))) 22), (b15, .cells (BV (padV ((bs).drop ((n / 16) * 16)))) 22), (b14, .cells (BV (enc key (xorV (crO key nonce (n / 16)) (star key)))) 22), (D, .deferred (some [])), (b23, .cells (#[(.slice a n cap)]) 30), (b9, .cells (#[.func (.func 140) #[] #[Ptr b6 0]]) 230), (b8, .cells (BV (xorV (crO key nonce (n / 16)) (star key))) 22), (b7, .cells (BV (crC bs (n / 16))) 22), (b6, .cells (#[.slice s.1 ((n / 16) * 16) s.2.1]) 30), (b4, .cells (BV nonce) 173), (b3, .cells (#[Ptr t 0]) 77)]) (i := 8) hS rfl hS1
     refine lx (hS.sl 11 1791) fun jj =>de (by kernel_rfl)<|wt<|rd mo 7 (fun w =>St w0 [] [(b17, .cells (BV (xorV (padV ((bs).drop ((n / 16) * 16))) (enc key (xorV (crO key nonce (n / 16)) (star key))))) 22), (b15, .cells (BV (padV ((bs).drop ((n / 16) * 16)))) 22), (b14, .cells (BV (enc key (xorV (crO key nonce (n / 16)) (star key)))) 22), (D, .deferred (some [])), (b23, .cells (#[(.slice a n cap)]) 30), (b9, .cells (#[.func (.func 140) #[] #[Ptr b6 0]]) 230), (b8, .cells (BV (xorV (crO key nonce (n / 16)) (star key))) 22), (b6, .cells (#[.slice a75 (((n / 16) * 16) + (n - ((n / 16) * 16))) c75]) 30), (b4, .cells (BV nonce) 173), (b3, .cells (#[Ptr t 0]) 77)] w)<|have hS := hS.drew; jx (hS.sl 11 1919) fun jj =>dx 0 O (by kernel_rfl) (fun w hS =>lo 7 sc30 hS O O O O O rr) jj<|dx 2 O (by kernel_rfl) (fun w hS =>la 1 ag22 hS O O O O (BV_size _) rr) jj<|dx 4 O (by kernel_rfl) (fun w hS =>la 6 ag22 hS O O O O (BV_size _) rr) jj ?_
     refine dl 1 O (by kernel_rfl)<|la 7 ag22 hS O O O O (BV_size _)<|lx (hS.sl 11 1919) fun jj =>?_
     refine dl 3 O (by kernel_rfl)<|cv cf143 hS O O O O O (sp_block_Xor ((crC bs (n / 16))) ((padV ((bs).drop ((n / 16) * 16)))) _) fun w hS =>lx (hS.sl 11 1919) fun jj =>?_
     refine dl 5 O (by kernel_rfl)<|st 8 sz30 hS O O O O O O Nat.zero_lt_one O fun w hS =>lx (hS.sl 11 1919) fun jj =>?_
     refine dl 6 O (by kernel_rfl)<|sa 7 ag22 hS O O O (BV_one _) O (BV_size _) (BV_size _) fun w hS =>lx (hS.sl 11 1919) fun jj =>?_
     refine dl 7 O (by kernel_rfl)<|sa 6 ag22 hS O O O (BV_one _) O (BV_size _) (BV_size _) fun w hS =>ly O<|de (by kernel_rfl)<|wt<|wc_ret ?_
     refine finM3 (v := .slice a75 (((n / 16) * 16) + (n - ((n / 16) * 16))) c75) (u := .agg (BV (xorV (crC bs (n / 16)) (padV ((bs).drop ((n / 16) * 16)))))) (x := .agg (BV (xorV (crO key nonce (n / 16)) (star key)))) 3 hS O O O (fun w hS =>⟨_, O, lv_c sc30 (hS.get 8 O) O⟩) (fun w hS =>⟨_, O, lv_a ag22 (hS.get 7 O) (BV_size _)⟩) (fun w hS =>⟨_, O, lv_a ag22 (hS.get 6 O) (BV_size _)⟩) (fun w hS =>?_)
     exact ⟨_, _, rfl, ⟨_, _, cry_r1 hn hz _ (by omega), cry_r2 hn hz _ (by omega) hO75⟩, hS.sublist (.cons _ (.cons _ (.cons _ (.cons _ (.cons _ (.cons _ (.cons _ (.cons _ (.cons _ (.cons _ (.cons _ (List.sublist_append_left X75 []))))))))))))⟩
    ·refine ala zr22 hS O O fun b14 w hb14 hS =>lx hS.tl fun jj =>?_
     refine dl 3 O (by kernel_rfl)<|cv cf71 hS O O O O O (sp_fast_Cipher_Encrypt c _ key ((xorV (crO key nonce (n / 16)) (star key))) _ (hS.old hC List.not_mem_nil)) fun w hS =>lx hS.tl fun jj =>?_
     refine dl 5 O (by kernel_rfl)<|sa 0 ag22 hS O O O (BV_one _) O (BV_size _) (BV_size _) fun w hS =>ly O<|de (by kernel_rfl)<|wt<|rg<|mv O O O<|cv cf146 hS O O O O O (sp_block_Pad ((sla a ((n / 16) * 16) cap)) ((n - ((n / 16) * 16))) ((cap - ((n / 16) * 16))) (((bs).drop ((n / 16) * 16))) _ (by first | rfl | omega | (simp; omega) | (simp; done)) (by omega) ((hc.st hS).drop8 (lo := (n / 16) * 16) (cap := cap) (by first | omega | (simp; omega) | simp)) (by omega)) fun w hS =>mv O O O<|ext O O O O<|ext O O O O<|ala zr22 hS O O fun b15 w hb15 hS =>?_
     refine sa 0 ag22 hS O O O (BV_one _) O (BV_size _) (BV_size _) fun w hS =>asg O O O<|wt<|rg<|la 0 ag22 hS O O O O (BV_size _)<|la 1 ag22 hS O O O O (BV_size _)<|cv cf143 hS O O O O O (sp_block_Xor ((padV ((bs).drop ((n / 16) * 16)))) ((enc key (xorV (crO key nonce (n / 16)) (star key)))) _) fun w hS =>ala zr22 hS O O fun b17 w hb17 hS =>sa 0 ag22 hS O O O (BV_one _) O (BV_size _) (BV_size _) fun w hS =>wt<|rd mo 5 (fun w =>St w0 [] [(b17, .cells (BV (xorV (padV ((bs).drop ((n / 16) * 16))) (enc key (xorV (crO key nonce (n / 16)) (star key))))) 22), (b15, .cells (BV (padV ((bs).drop ((n / 16) * 16)))) 22), (b14, .cells (BV (enc key (xorV (crO key nonce (n / 16)) (star key)))) 22), (D, .deferred (some [])), (b23, .cells (#[(.slice a n cap)]) 30), (b9, .cells (#[.func (.func 140) #[] #[Ptr b6 0]]) 230), (b8, .cells (BV (xorV (crO key nonce (n / 16)) (star key))) 22), (b7, .cells (BV (crC bs (n / 16))) 22), (b4, .cells (BV nonce) 173), (b3, .cells (#[Ptr t 0]) 77)] w)<|have hS := hS.drew; jx (hS.sl 11 1791) fun jj =>?_
     refine dx 0 O (by kernel_rfl) (fun w hS =>lo 5 sc230 hS O O O O O rr) jj<|dx 1 O (by kernel_rfl) (fun w hS =>mv O O O rr) jj<|dx 2 O (by kernel_rfl) (fun w hS =>lens un30 O O O rr) jj<|dx 3 O (by kernel_rfl) (fun w hS =>a_h (n - ((n / 16) * 16)) un22 ⟨_, sz5⟩ O O O O (by omega) (by omega) rr) jj ?_
     refine dl 4 O (by kernel_rfl)<|cl cf140 O O O O O (sp_seal_Crypt_1 (some ⟨b17, 0, none⟩) (n - ((n / 16) * 16)) 16 (((xorV (padV ((bs).drop ((n / 16) * 16))) (enc key (xorV (crO key nonce (n / 16)) (star key)))).toList).take (n - ((n / 16) * 16))) _ _ s.1 ((n / 16) * 16) s.2.1 (crT key nonce bs (n / 16)) s.2.2 _ (by simp; omega) (by omega) ((Cel.bv (hS.get 0 O)).take8 (n - ((n / 16) * 16))) (hS.get 8 O) hO (fun p hp =>(hS.own p (by simp [hp])).2) (St.nd (A := [(b17, .cells (BV (xorV (padV ((bs).drop ((n / 16) * 16))) (enc key (xorV (crO key nonce (n / 16)) (star key))))) 22), (b15, .cells (BV (padV ((bs).drop ((n / 16) * 16)))) 22), (b14, .cells (BV (enc key (xorV (crO key nonce (n / 16)) (star key)))) 22), (D, .deferred (some [])), (b23, .cells (#[(.slice a n cap)]) 30), (b9, .cells (#[.func (.func 140) #[] #[Ptr b6 0]]) 230), (b8, .cells (BV (xorV (crO key nonce (n / 16)) (star key))) 22), (b7, .cells (BV (crC bs (n / 16))) 22), (b6, .cells (#[.slice s.1 ((n / 16) * 16) s.2.1]) 30), (b4, .cells (BV nonce) 173), (b3, .cells (#[Ptr t 0]) 77)]) (R := []) (i := 8) hS O)) ?_
     rintro _ w ⟨a75, c75, X75, ⟨v75, rfl⟩, hO75, hS1⟩
     refine ⟨_, O, ?_⟩
     have hS : St w0 [] ([(b17, .cells (BV (xorV (padV ((bs).drop ((n / 16) * 16))) (enc key (xorV (crO key nonce (n / 16)) (star key))))) 22), (b15, .cells (BV (padV ((bs).drop ((n / 16) * 16)))) 22), (b14, .cells (BV (enc key (xorV (crO key nonce (n / 16)) (star key)))) 22), (D, .deferred (some [])), (b23, .cells (#[(.slice a n cap)]) 30), (b9, .cells (#[.func (.func 140) #[] #[Ptr b6 0]]) 230), (b8, .cells (BV (xorV (crO key nonce (n / 16)) (star key))) 22), (b7, .cells (BV (crC bs (n / 16))) 22), (b6, .cells (#[.slice a75 (((n / 16) * 16) + (n - ((n / 16) * 16))) c75]) 30), (b4, .cells (BV nonce) 173), (b3, .cells (#[Ptr t 0]) 77)] ++ (X75 ++ [])) w := St.call_out (A := [(b17, .cells (BV (xorV (padV ((bs).drop ((n / 16) * 16))) (enc key (xorV (crO key nonce (n / 16)) (star key))))) 22), (b15, .cells (BV (padV ((bs).drop ((n / 16) * 16)))) 22), (b14, .cells (BV (enc key (xorV (crO key nonce (n / 16)) (star key)))) 22), (D, .deferred (some [])), (b23, .cells (#[(.slice a n cap)]) 30), (b9, .cells (#[.func (.func 140) #[] #[Ptr b6 0]]) 230), (b8, .cells (BV (xorV (crO key nonce (n / 16)) (star key))) 22), (b7, .cells (BV (crC bs (n / 16))) 22), (b6, .cells (#[.slice s.1 ((n / 16) * 16) s.2.1]) 30), (b4, .cells (BV nonce) 173), (b3, .cells (#[Ptr t 0]) 77)]) (i := 8) hS rfl hS1
     refine lx (hS.sl 11 1791) fun jj =>de (by kernel_rfl)<|wt<|rd mo 7 (fun w =>St w0 [] [(b17, .cells (BV (xorV (padV ((bs).drop ((n / 16) * 16))) (enc key (xorV (crO key nonce (n / 16)) (star key))))) 22), (b15, .cells (BV (padV ((bs).drop ((n / 16) * 16)))) 22), (b14, .cells (BV (enc key (xorV (crO key nonce (n / 16)) (star key)))) 22), (D, .deferred (some [])), (b23, .cells (#[(.slice a n cap)]) 30), (b9, .cells (#[.func (.func 140) #[] #[Ptr b6 0]]) 230), (b8, .cells (BV (xorV (crO key nonce (n / 16)) (star key))) 22), (b6, .cells (#[.slice a75 (((n / 16) * 16) + (n - ((n / 16) * 16))) c75]) 30), (b4, .cells (BV nonce) 173), (b3, .cells (#[Ptr t 0]) 77)] w)<|have hS := hS.drew; jx (hS.sl 11 1919) fun jj =>dx 0 O (by kernel_rfl) (fun w hS =>lo 7 sc30 hS O O O O O rr) jj<|dx 2 O (by kernel_rfl) (fun w hS =>la 1 ag22 hS O O O O (BV_size _) rr) jj<|dx 4 O (by kernel_rfl) (fun w hS =>la 6 ag22 hS O O O O (BV_size _) rr) jj ?_
     refine dl 1 O (by kernel_rfl)<|la 7 ag22 hS O O O O (BV_size _)<|lx (hS.sl 11 1919) fun jj =>?_
     refine dl 3 O (by kernel_rfl)<|cv cf143 hS O O O O O (sp_block_Xor ((crC bs (n / 16))) ((padV ((bs).drop ((n / 16) * 16)))) _) fun w hS =>lx (hS.sl 11 1919) fun jj =>?_
     refine dl 5 O (by kernel_rfl)<|st 8 sz30 hS O O O O O O Nat.zero_lt_one O fun w hS =>lx (hS.sl 11 1919) fun jj =>?_
     refine dl 6 O (by kernel_rfl)<|sa 7 ag22 hS O O O (BV_one _) O (BV_size _) (BV_size _) fun w hS =>lx (hS.sl 11 1919) fun jj =>?_
     refine dl 7 O (by kernel_rfl)<|sa 6 ag22 hS O O O (BV_one _) O (BV_size _) (BV_size _) fun w hS =>ly O<|de (by kernel_rfl)<|wt<|wc_ret ?_
     refine finM3 (v := .slice a75 (((n / 16) * 16) + (n - ((n / 16) * 16))) c75) (u := .agg (BV (xorV (crC bs (n / 16)) (padV ((bs).drop ((n / 16) * 16)))))) (x := .agg (BV (xorV (crO key nonce (n / 16)) (star key)))) 3 hS O O O (fun w hS =>⟨_, O, lv_c sc30 (hS.get 8 O) O⟩) (fun w hS =>⟨_, O, lv_a ag22 (hS.get 7 O) (BV_size _)⟩) (fun w hS =>⟨_, O, lv_a ag22 (hS.get 6 O) (BV_size _)⟩) (fun w hS =>?_)
     exact ⟨_, _, rfl, ⟨_, _, cry_r1 hn hz _ (by omega), cry_r2 hn hz _ (by omega) hO75⟩, hS.sublist (.cons _ (.cons _ (.cons _ (.cons _ (.cons _ (.cons _ (.cons _ (.cons _ (.cons _ (.cons _ (.cons _ (List.sublist_append_left X75 []))))))))))))⟩
   ·refine ala zr22 hS O O fun b14 w hb14 hS =>lx hS.tl fun jj =>?_
    refine dl 1 O (by kernel_rfl)<|cv cf144 hS O O O O O (sp_table_Table_Cipher t c key _ (hT.st hS)) fun w hS =>lx hS.tl fun jj =>?_
    refine dl 3 O (by kernel_rfl)<|cv cf71 hS O O O O O (sp_fast_Cipher_Encrypt c _ key ((xorV (crO key nonce (n / 16)) (star key))) _ (hS.old hC List.not_mem_nil)) fun w hS =>lx hS.tl fun jj =>?_
    refine dl 5 O (by kernel_rfl)<|sa 0 ag22 hS O O O (BV_one _) O (BV_size _) (BV_size _) fun w hS =>ly O<|de (by kernel_rfl)<|wt<|rg<|mv O O O<|cv cf146 hS O O O O O (sp_block_Pad ((sla a ((n / 16) * 16) cap)) ((n - ((n / 16) * 16))) ((cap - ((n / 16) * 16))) (((bs).drop ((n / 16) * 16))) _ (by first | rfl | omega | (simp; omega) | (simp; done)) (by omega) ((hc.st hS).drop8 (lo := (n / 16) * 16) (cap := cap) (by first | omega | (simp; omega) | simp)) (by omega)) fun w hS =>mv O O O<|ext O O O O<|ext O O O O<|ala zr22 hS O O fun b15 w hb15 hS =>?_
    refine sa 0 ag22 hS O O O (BV_one _) O (BV_size _) (BV_size _) fun w hS =>asg O O O<|wt<|rg<|la 0 ag22 hS O O O O (BV_size _)<|la 1 ag22 hS O O O O (BV_size _)<|cv cf143 hS O O O O O (sp_block_Xor ((padV ((bs).drop ((n / 16) * 16)))) ((enc key (xorV (crO key nonce (n / 16)) (star key)))) _) fun w hS =>ala zr22 hS O O fun b17 w hb17 hS =>sa 0 ag22 hS O O O (BV_one _) O (BV_size _) (BV_size _) fun w hS =>wt<|rd mo 5 (fun w =>St w0 [] [(b17, .cells (BV (xorV (padV ((bs).drop ((n / 16) * 16))) (enc key (xorV (crO key nonce (n / 16)) (star key))))) 22), (b15, .cells (BV (padV ((bs).drop ((n / 16) * 16)))) 22), (b14, .cells (BV (enc key (xorV (crO key nonce (n / 16)) (star key)))) 22), (D, .deferred (some [])), (b23, .cells (#[(.slice a n cap)]) 30), (b9, .cells (#[.func (.func 140) #[] #[Ptr b6 0]]) 230), (b8, .cells (BV (xorV (crO key nonce (n / 16)) (star key))) 22), (b7, .cells (BV (crC bs (n / 16))) 22), (b4, .cells (BV nonce) 173), (b3, .cells (#[Ptr t 0]) 77)] w)<|have hS := hS.drew; jx (hS.sl 11 1791) fun jj =>?_
    refine dx 0 O (by kernel_rfl) (fun w hS =>lo 5 sc230 hS O O O O O rr) jj<|dx 1 O (by kernel_rfl) (fun w hS =>mv O O O rr) jj<|dx 2 O (by kernel_rfl) (fun w hS =>lens un30 O O O rr) jj<|dx 3 O (by kernel_rfl) (fun w hS =>a_h (n - ((n / 16) * 16)) un22 ⟨_, sz5⟩ O O O O (by omega) (by omega) rr) jj ?_
    refine dl 4 O (by kernel_rfl)<|cl cf140 O O O O O (sp_seal_Crypt_1 (some ⟨b17, 0, none⟩) (n - ((n / 16) * 16)) 16 (((xorV (padV ((bs).drop ((n / 16) * 16))) (enc key (xorV (crO key nonce (n / 16)) (star key)))).toList).take (n - ((n / 16) * 16))) _ _ s.1 ((n / 16) * 16) s.2.1 (crT key nonce bs (n / 16)) s.2.2 _ (by simp; omega) (by omega) ((Cel.bv (hS.get 0 O)).take8 (n - ((n / 16) * 16))) (hS.get 8 O) hO (fun p hp =>(hS.own p (by simp [hp])).2) (St.nd (A := [(b17, .cells (BV (xorV (padV ((bs).drop ((n / 16) * 16))) (enc key (xorV (crO key nonce (n / 16)) (star key))))) 22), (b15, .cells (BV (padV ((bs).drop ((n / 16) * 16)))) 22), (b14, .cells (BV (enc key (xorV (crO key nonce (n / 16)) (star key)))) 22), (D, .deferred (some [])), (b23, .cells (#[(.slice a n cap)]) 30), (b9, .cells (#[.func (.func 140) #[] #[Ptr b6 0]]) 230), (b8, .cells (BV (xorV (crO key nonce (n / 16)) (star key))) 22), (b7, .cells (BV (crC bs (n / 16))) 22), (b6, .cells (#[.slice s.1 ((n / 16) * 16) s.2.1]) 30), (b4, .cells (BV nonce) 173), (b3, .cells (#[Ptr t 0]) 77)]) (R := []) (i := 8) hS O)) ?_
    rintro _ w ⟨a75, c75, X75, ⟨v75, rfl⟩, hO75, hS1⟩
    refine ⟨_, O, ?_⟩
    have hS : St w0 [] ([(b17, .cells (BV (xorV (padV ((bs).drop ((n / 16) * 16))) (enc key (xorV (crO key nonce (n / 16)) (star key))))) 22), (b15, .cells (BV (padV ((bs).drop ((n / 16) * 16)))) 22), (b14, .cells (BV (enc key (xorV (crO key nonce (n / 16)) (star key)))) 22), (D, .deferred (some [])), (b23, .cells (#[(.slice a n cap)]) 30), (b9, .cells (#[.func (.func 140) #[] #[Ptr b6 0]]) 230), (b8, .cells (BV (xorV (crO key nonce (n / 16)) (star key))) 22), (b7, .cells (BV (crC bs (n / 16))) 22), (b6, .cells (#[.slice a75 (((n / 16) * 16) + (n - ((n / 16) * 16))) c75]) 30), (b4, .cells (BV nonce) 173), (b3, .cells (#[Ptr t 0]) 77)] ++ (X75 ++ [])) w := St.call_out (A := [(b17, .cells (BV (xorV (padV ((bs).drop ((n / 16) * 16))) (enc key (xorV (crO key nonce (n / 16)) (star key))))) 22), (b15, .cells (BV (padV ((bs).drop ((n / 16) * 16)))) 22), (b14, .cells (BV (enc key (xorV (crO key nonce (n / 16)) (star key)))) 22), (D, .deferred (some [])), (b23, .cells (#[(.slice a n cap)]) 30), (b9, .cells (#[.func (.func 140) #[] #[Ptr b6 0]]) 230), (b8, .cells (BV (xorV (crO key nonce (n / 16)) (star key))) 22), (b7, .cells (BV (crC bs (n / 16))) 22), (b6, .cells (#[.slice s.1 ((n / 16) * 16) s.2.1]) 30), (b4, .cells (BV nonce) 173), (b3, .cells (#[Ptr t 0]) 77)]) (i := 8) hS rfl hS1
    refine lx (hS.sl 11 1791) fun jj =>de (by kernel_rfl)<|wt<|rd mo 7 (fun w =>St w0 [] [(b17, .cells (BV (xorV (padV ((bs).drop ((n / 16) * 16))) (enc key (xorV (crO key nonce (n / 16)) (star key))))) 22), (b15, .cells (BV (padV ((bs).drop ((n / 16) * 16)))) 22), (b14, .cells (BV (enc key (xorV (crO key nonce (n / 16)) (star key)))) 22), (D, .deferred (some [])), (b23, .cells (#[(.slice a n cap)]) 30), (b9, .cells (#[.func (.func 140) #[] #[Ptr b6 0]]) 230), (b8, .cells (BV (xorV (crO key nonce (n / 16)) (star key))) 22), (b6, .cells (#[.slice a75 (((n / 16) * 16) + (n - ((n / 16) * 16))) c75]) 30), (b4, .cells (BV nonce) 173), (b3, .cells (#[Ptr t 0]) 77)] w)<|have hS := hS.drew; jx (hS.sl 11 1919) fun jj =>dx 0 O (by kernel_rfl) (fun w hS =>lo 7 sc30 hS O O O O O rr) jj<|dx 2 O (by kernel_rfl) (fun w hS =>la 1 ag22 hS O O O O (BV_size _) rr) jj<|dx 4 O (by kernel_rfl) (fun w hS =>la 6 ag22 hS O O O O (BV_size _) rr) jj ?_
    refine dl 1 O (by kernel_rfl)<|la 7 ag22 hS O O O O (BV_size _)<|lx (hS.sl 11 1919) fun jj =>?_
    refine dl 3 O (by kernel_rfl)<|cv cf143 hS O O O O O (sp_block_Xor ((crC bs (n / 16))) ((padV ((bs).drop ((n / 16) * 16)))) _) fun w hS =>lx (hS.sl 11 1919) fun jj =>?_
    refine dl 5 O (by kernel_rfl)<|st 8 sz30 hS O O O O O O Nat.zero_lt_one O fun w hS =>lx (hS.sl 11 1919) fun jj =>?_
    refine dl 6 O (by kernel_rfl)<|sa 7 ag22 hS O O O (BV_one _) O (BV_size _) (BV_size _) fun w hS =>lx (hS.sl 11 1919) fun jj =>?_
    refine dl 7 O (by kernel_rfl)<|sa 6 ag22 hS O O O (BV_one _) O (BV_size _) (BV_size _) fun w hS =>ly O<|de (by kernel_rfl)<|wt<|wc_ret ?_
    refine finM3 (v := .slice a75 (((n / 16) * 16) + (n - ((n / 16) * 16))) c75) (u := .agg (BV (xorV (crC bs (n / 16)) (padV ((bs).drop ((n / 16) * 16)))))) (x := .agg (BV (xorV (crO key nonce (n / 16)) (star key)))) 3 hS O O O (fun w hS =>⟨_, O, lv_c sc30 (hS.get 8 O) O⟩) (fun w hS =>⟨_, O, lv_a ag22 (hS.get 7 O) (BV_size _)⟩) (fun w hS =>⟨_, O, lv_a ag22 (hS.get 6 O) (BV_size _)⟩) (fun w hS =>?_)
    exact ⟨_, _, rfl, ⟨_, _, cry_r1 hn hz _ (by omega), cry_r2 hn hz _ (by omega) hO75⟩, hS.sublist (.cons _ (.cons _ (.cons _ (.cons _ (.cons _ (.cons _ (.cons _ (.cons _ (.cons _ (.cons _ (.cons _ (List.sublist_append_left X75 []))))))))))))⟩
theorem sp_seal_Seal (t c : Nat) (key : V8 16) (nonce : V8 12) (a : Option Addr) (n cap : Nat) (bs : List UInt8) (a2 : Option Addr) (n2 cap2 : Nat) (bs2 : List UInt8) (w0 : World) (hT : TabAt w0 t c key) (hn : bs.length = n) (hN : n ≤ 1000000) (hc : Cel w0 a (c8 bs)) (hcap : n ≤ cap) (hn2 : bs2.length = n2) (hN2 : n2 ≤ 1000000) (he2 : Cel w0 a2 (c8 bs2)) (hcap2 : n2 ≤ cap2) (hG : Gl 1 w0) : Calls Tryz.prog 85 #[Ptr t 0, .agg (BV nonce), .slice a2 n2 cap2, .slice a n cap] w0 (RetS w0 (fun v X => ∃ a' c', v = .slice a' (n + 16) c' ∧ Own 1 a' (n + 16) c' (c8 (sealV key nonce bs2 bs)) X)) := by
 refine enter (args := [Ptr t 0, .agg (BV nonce), .slice a2 n2 cap2, .slice a n cap]) Tryz.func85 O O<|startw fun w hS =>?_
 obtain ⟨⟨T, hT1⟩, E, hC⟩ := id hT
 refine rg<|bxa hS O O O fun b5 w hb5 hS =>asg O O O<|wt<|rg<|mv O O O<|la 0 ag173 hS O O O O (BV_size _)<|mv O O O<|cs cf116 hS O O O O O (sp_seal_Crypt t c key nonce a n cap bs _ (hT.st hS) (by first | rfl | omega | (simp; omega) | (simp; done)) (by omega) (hc.st hS) (by omega) (hG.st hS)) ?_
 rintro _ X17 w ⟨a17, c17, rfl, hO17⟩ hS
 have hS := St.tailin (X := X17) hS [(b5, .cells (BV nonce) 173)] [] rfl
 refine mv O O O<|ext O O O O<|ext O O O O<|ext O O O O<|ala zr22 hS O O fun b10 w hb10 hS =>ala zr22 hS O O fun b11 w hb11 hS =>asg O O O<|sa 1 ag22 hS O O O (BV_one _) O (BV_size _) (BV_size _) fun w hS =>sa 0 ag22 hS O O O (BV_one _) O (BV_size _) (BV_size _) fun w hS =>wt<|rg<|mv O O O ?_
 refine la 1 ag22 hS O O O O (BV_size _)<|la 0 ag22 hS O O O O (BV_size _)<|mv O O O<|cv cf117 hS O O O O O (sp_seal_Tag t c key ((cryC bs)) ((cryO key nonce n)) a2 n2 cap2 bs2 _ (hT.st hS) (by first | rfl | omega | (simp; omega) | (simp; done)) (by omega) (he2.st hS) (by omega) (hG.st hS)) fun w hS =>ala zr22 hS O O fun b12 w hb12 hS =>sa 0 ag22 hS O O O (BV_one _) O (BV_size _) (BV_size _) fun w hS =>wt<|rg<|mv O O O<|a_all un22 ⟨_, sz5⟩ O O O<|app (A := [(b12, .cells (BV (tagV key (cryC bs) (cryO key nonce n) bs2)) 22), (b11, .cells (BV (cryO key nonce n)) 22), (b10, .cells (BV (cryC bs)) 22), (b5, .cells (BV nonce) 173)]) (R := []) sl30 hO17 hS O O O O (src8 un30 _ (Cel.bv (hS.get 0 O)) Vector.length_toList) (by omega) (by omega) fun a28 c28 X28 w hO28 hS =>?_
 try simp only [c8_app] at hO28
 refine asg O O O<|wt<|wc_ret<|fin1 (v := .slice a28 (n + 16) c28) O O ?_
 exact ⟨_, _, rfl, ⟨_, _, rfl, by rw [sealV, hn]; exact hO28⟩, hS.sublist (.cons _ (.cons _ (.cons _ (.cons _ (List.sublist_append_left X28 [])))))⟩
theorem sp_slices_Grow_byte_byte (n : Nat) (n_ : Int) (w0 : World) (hn_ : n_ = (n : Int)) (h0 : 0 < n) (hN : n ≤ 2000000) : Calls Tryz.prog 115 #[.slice none 0 0, I n_] w0 (RetS w0 (fun v X => ∃ a' c', v = .slice a' 0 c' ∧ Own 1 a' 0 c' (c8 []) X)) := by
 subst hn_
 refine enter (args := [.slice none 0 0, I (n : Int)]) Tryz.func115 O O<|startw fun w hS =>rg<|asg O O O<|wt<|wc_seq<|rg<|mv O O O<|lss O O O O<|wt ?_
 refine wc_if O (fun hc1 =>?_) (fun hc1 =>?_)
 ·try simp only [SB] at hc1
  exfalso; omega
 ·try simp only [SB] at hc1
  refine wc_skip<|wt<|wc_seq<|rg<|mv O O O<|mv O O O<|caps un30 O O O<|mv O O O<|lens un30 O O O<|subi (by omega) (by omega) O O O O<|subi (by omega) (by omega) O O O O<|asg O O O ?_
  refine wt<|rg<|mv O O O<|gtr O O O O<|wt ?_
  refine wc_if O (fun hc2 =>?_) (fun hc2 =>?_)
  ·try simp only [SB] at hc2
   refine wc_region<|mv O O O<|mv O O O<|caps un30 O O O<|s_h 0 un30 ⟨_, sz5⟩ O O O O (by omega) (by omega)<|mv O O O<|app0n (q := n) (A := []) (R := []) sl30 ⟨_, un3⟩ hS O O O O (by omega) (by omega) (by decide) (by omega) (by omega) fun a22 c22 xs22 X22 w hO22 hS =>mv O O O<|lens un30 O O O<|s_h 0 un30 ⟨_, sz5⟩ O O O O (by omega) (by omega)<|asg O O O<|wt ?_
   refine rg<|mv O O O<|asg O O O<|wt<|wc_ret<|fin1 (v := .slice a22 0 c22) O O ?_
   have hO := hO22.shrink 0 (by omega)
   exact ⟨_, X22, rfl, ⟨_, _, rfl, by simpa [c8] using hO⟩, hS.sublist (by simp)⟩
  ·try simp only [SB] at hc2
   exfalso; omega
theorem sp_slices_Concat_byte_byte (sb E : Nat) (ct : Array Value) (aF : Nat → Option Addr) (nF cF : Nat → Nat) (bF : Nat → List UInt8) (w0 : World) (hb : w0.heap[sb]? = some (.cells ct E)) (hcs : ∀ k, k < 2 → ct[k]? = some (.slice (aF k) (nF k) (cF k))) (hl : ∀ k, (bF k).length = nF k) (hcF : ∀ k, Cel w0 (aF k) (c8 (bF k))) (hNF : ∀ k, nF k ≤ 100000) (h0 : 0 < nF 0) : Calls Tryz.prog 83 #[.slice (some ⟨sb, 0, none⟩) 2 2] w0 (RetS w0 (fun v X => ∃ a' c', v = .slice a' (nF 0 + nF 1) c' ∧ Own 1 a' (nF 0 + nF 1) c' (c8 (bF 0 ++ bF 1)) X)) := by
 refine enter (args := [.slice (some ⟨sb, 0, none⟩) 2 2]) Tryz.func83 O O<|startw fun w hS =>rg<|asg O O O<|wt<|rg<|asg O O O<|wt<|wc_seq<|rg<|mv O O O<|lens un208 O O O ?_
 refine mv O O O<|wt<|wc_block ?_
 refine wc_loop (σ := Nat) (fun k =>[(0, .slice (some ⟨sb, 0, none⟩) 2 2), (2, (.slice none 0 0)), (3, I (((sumN nF k : Nat) : Int))), (9, .slice (some ⟨sb, 0, none⟩) 2 2), (10, I (((2 : Nat) : Int))), (11, I ((k : Int)))])
  (fun k w => (k ≤ 2 ∧ sumN nF k ≤ k * 100000) ∧ St w0 [] [] w) (fun k => 2 - k) 0 ⟨rfl, rfl, rfl, rfl, rfl, rfl, trivial⟩ ⟨⟨by omega, by simp [sumN]⟩, hS⟩ ?_
 rintro k w ⟨⟨hk, hsk⟩, hS⟩
 have hq := hNF k
 refine rg<|lss O O O O<|wt<|wc_seq ?_
 refine wc_if O (fun hc1 =>?_) (fun hc1 =>?_)
 ·try simp only [SB] at hc1
  refine wc_skip<|wt<|wc_seq<|wc_block<|rg<|isn k un208 sz30 O O O O (by omega) (by omega)<|lod hb List.not_mem_nil sc30 hS O O O (hcs k (by omega))<|asg O O O<|wt<|rg<|mv O O O<|mv O O O ?_
  refine lens un30 O O O<|addi (by omega) (by omega) O O O O<|asg O O O<|wt<|rg<|mv O O O<|lss O O O O<|wt ?_
  refine wc_if O (fun hc2 =>?_) (fun hc2 =>?_)
  ·try simp only [SB] at hc2
   exfalso; omega
  ·try simp only [SB] at hc2
   refine wc_skip<|q_block_norm<|wt<|wc_region<|addi (by omega) (by omega) O O O O<|mv O O O ?_
   refine again_q (k + 1) ⟨O, O, lkI O (by simp only [sumN]; omega), O, O, lkI O (by first | omega | rfl), trivial⟩ ⟨⟨by omega, by simp only [sumN]; omega⟩, hS⟩ (by omega)
 ·try simp only [SB] at hc1
  have hk2 : k = 2 := by omega
  have hs3 : sumN nF k = nF 0 + nF 1 := by rw [hk2]; simp [sumN]
  have hq1 := hNF 0
  have hq2 := hNF 1
  refine wc_exit<|q_then_exit<|q_then_exit<|q_block_hit<|wt<|rg<|mv O O O<|cs cf115 hS O O O O O (sp_slices_Grow_byte_byte ((sumN nF k)) _ _ (by omega) (by omega) (by omega)) ?_
  rintro _ X24 w ⟨a24, c24, rfl, hO24⟩ hS
  have hS := St.tailin (X := X24) hS [] [] rfl
  refine asg O O O<|wt<|wc_seq<|rg<|mv O O O<|lens un208 O O O<|mv O O O<|wt<|wc_block ?_
  refine wc_loop (σ := (Nat × Option Addr × Nat × List (Nat × Obj))) (fun s =>[(2, (.slice none 0 0)), (6, .slice s.2.1 (sumN nF s.1) s.2.2.1), (25, .slice (some ⟨sb, 0, none⟩) 2 2), (26, I (((2 : Nat) : Int))), (27, I ((s.1 : Int)))])
   (fun s w => (s.1 ≤ 2 ∧ sumN nF s.1 ≤ s.1 * 100000 ∧ Own 1 s.2.1 (sumN nF s.1) s.2.2.1 (c8 (catN bF s.1)) s.2.2.2) ∧ St w0 [] ([] ++ (s.2.2.2 ++ [])) w) (fun s => 2 - s.1) (0, a24, c24, X24) ⟨rfl, rfl, rfl, rfl, rfl, trivial⟩ ⟨⟨by omega, by simp [sumN], hO24⟩, hS⟩ ?_
  rintro s w ⟨⟨hk, hsk, hO⟩, hS⟩
  have hq := hNF s.1
  refine rg<|lss O O O O<|wt<|wc_seq ?_
  refine wc_if O (fun hc3 =>?_) (fun hc3 =>?_)
  ·try simp only [SB] at hc3
   refine wc_skip<|wt<|wc_seq<|wc_block<|rg<|isn s.1 un208 sz30 O O O O (by omega) (by omega)<|lod hb List.not_mem_nil sc30 hS O O O (hcs s.1 (by omega))<|asg O O O<|wt<|wc_region<|mv O O O<|mv O O O ?_
   refine app (A := []) (R := []) sl30 hO hS O O O O (src8 un30 _ ((hcF s.1).st hS) (hl s.1)) (by omega) (by omega) fun a33 c33 X33 w hO33 hS =>?_
   try simp only [c8_app] at hO33
   refine asg O O O<|q_block_norm<|wt<|wc_region<|addi (by omega) (by omega) O O O O<|mv O O O ?_
   refine again_q (s.1 + 1, a33, c33, X33) ⟨O, O, O, O, lkI O (by first | omega | rfl), trivial⟩ ⟨⟨by omega, by simp only [sumN]; omega, hO33⟩, hS⟩ (by omega)
  ·try simp only [SB] at hc3
   have hk4 : s.1 = 2 := by omega
   refine wc_exit<|q_then_exit<|q_then_exit<|q_block_hit<|wt<|rg<|mv O O O<|asg O O O<|wt<|wc_ret<|fin1 (v := .slice s.2.1 (sumN nF s.1) s.2.2.1) O O ?_
   refine ⟨_, s.2.2.2, O, ⟨s.2.1, s.2.2.1, ?_, ?_⟩, by simpa using hS⟩
   ·rw [hk4]; simp [sumN]
   ·rw [hk4] at hO; simpa [sumN, catN] using hO
theorem sp_packet_Encode (t c : Nat) (key : V8 16) (dp : Int) (sp : UInt64) (tp ep : UInt16) (ap : Option Addr) (np capp : Nat) (bsp : List UInt8) (w0 : World) (hT : TabAt w0 t c key) (hnp : bsp.length = np) (hNp : np ≤ 1000000) (hep : Cel w0 ap (c8 bsp)) (hcp : np ≤ capp) (hG : Gl 1 w0) : Calls Tryz.prog 39 #[Ptr t 0, .agg #[I dp, U64 sp, U16 tp, U16 ep, .slice ap np capp]] w0 (RetS w0 (fun v X => ∃ a' n' c', v = .tuple #[.slice a' n' c', errV 33 (chk dp sp np)] ∧ Own 1 a' n' c' (c8 (encP key dp sp tp ep bsp)) X)) := by
 refine enter (args := [Ptr t 0, .agg #[I dp, U64 sp, U16 tp, U16 ep, .slice ap np capp]]) Tryz.func39 O O<|startw fun w hS =>?_
 obtain ⟨⟨T, hT1⟩, E, hC⟩ := id hT
 refine rg<|bxa hS O O O fun b3 w hb3 hS =>asg O O O<|asg O O O<|wt<|wc_seq<|rg<|la 0 ag100 hS O O O O O<|cv cf81 hS O O O O O (sp_packet_check dp sp tp ep ap np capp _) fun w hS =>asg O O O<|wt<|rg ?_
 refine mv O O O<|neE (C := 33) (c := (chk dp sp np)) un27 O O O<|wt ?_
 refine wc_if O (fun hc1 =>?_) (fun hc1 =>?_)
 ·try simp only [SB] at hc1
  have hk : chk dp sp np ≠ 0 := by simpa using hc1
  refine rg<|mv O O O<|asg O O O<|asg O O O<|wt<|wc_ret<|q_then_ret<|fin2 (v := (.slice none 0 0)) (u := (errV 33 (chk dp sp np))) O O O ?_
  exact ⟨_, [], rfl, ⟨none, 0, 0, rfl, enc_bad hnp hk⟩, hS.drop⟩
 ·try simp only [SB] at hc1
  have hk : chk dp sp np = 0 := by simpa using hc1
  obtain ⟨⟨dn, hdn, hd1⟩, hs63, hn12⟩ := chk_0 hk
  refine wc_skip<|wt<|rg<|fan 0 0 un100 O sz3 (by decide) O O O O (by omega)<|lo 0 sc3 hS O O O O O<|fan 1 1 un100 O sz24 (by decide) O O O O (by omega)<|lo 0 sc24 hS O O O O O<|cv cf82 hS O O O O O (sp_nonce_Head dn sp _ _ (by omega) (by omega) (by omega)) fun w hS =>mv O O O<|ext O O O O<|ext O O O O<|ala zr166 hS O O fun b7 w hb7 hS =>?_
  refine sa 0 ag166 hS O O O (BV_one _) O (BV_size _) (BV_size _) fun w hS =>asg O O O<|wt<|rd mo 13 (fun w =>St w0 [] [(b7, .cells (BV (headV dn sp)) 166), (b3, .cells (#[I (dp), U64 (sp), U16 (tp), U16 (ep), .slice ap np capp]) 100)] w)<|have hS := hS.drew; jx hS fun jj =>dx 0 O (by kernel_rfl) (fun w hS =>fan 2 2 un100 O sz36 (by decide) O O O O (by omega) rr) jj<|dx 1 O (by kernel_rfl) (fun w hS =>lo 1 sc36 hS O O O O O rr) jj<|dx 2 O (by kernel_rfl) (fun w hS =>cvu64 un24 ⟨_, un36⟩ O O O rr) jj<|dx 3 O (by kernel_rfl) (fun w hS =>shln64 16 (by omega) O O O O rr) jj<|dx 4 O (by kernel_rfl) (fun w hS =>fan 3 3 un100 O sz36 (by decide) O O O O (by omega) rr) jj<|dx 5 O (by kernel_rfl) (fun w hS =>lo 1 sc36 hS O O O O O rr) jj<|dx 6 O (by kernel_rfl) (fun w hS =>cvu64 un24 ⟨_, un36⟩ O O O rr) jj ?_
  refine dx 7 O (by kernel_rfl) (fun w hS =>or64 O O O O rr) jj<|dx 9 O (by kernel_rfl) (fun w hS =>fan 4 4 un100 O sz30 (by decide) O O O O (by omega) rr) jj<|dx 10 O (by kernel_rfl) (fun w hS =>lo 1 sc30 hS O O O O O rr) jj ?_
  refine dl 8 O (by kernel_rfl)<|cs cf84 hS O O O O O (sp_bits_Bytes (((shl64 (toU64 (((tp).toNat : Int))) 16) ||| (toU64 (((ep).toNat : Int))))) 4 _ _ (by omega) (by omega)) ?_
  rintro _ _ w ⟨q31, rfl, rfl⟩ hS
  refine lx hS.tl fun jj =>?_
  refine dl 11 O (by kernel_rfl)<|bsl (cs := #[.slice (some ⟨q31, 0, none⟩) 4 4, .slice ap np capp]) sl208 hS O O O O (by kernel_rfl) fun b34 w hb34 hS =>lx hS.tl.tl fun jj =>?_
  refine dl 12 rfl (by kernel_rfl) <| cs cf83 hS rfl rfl rfl rfl rfl (sp_slices_Concat_byte_byte b34 30 _ (two (some ⟨q31, 0, none⟩) ap) (two 4 np) (two 4 capp) (two (bytesL ((shl64 (toU64 (((tp).toNat : Int))) 16) ||| (toU64 (((ep).toNat : Int)))) 4) bsp) _ (hS.get 0 rfl) (fun k hk => by rcases (show k = 0 ∨ k = 1 by omega) with rfl | rfl <;> rfl) (fun k => by unfold two; split; exact (by first | rfl | omega | (simp; omega) | (simp; done)); exact (by first | rfl | omega | (simp; omega) | (simp; done))) (fun k => by unfold two; split; exact Cel.lb (l := bytesL ((shl64 (toU64 (((tp).toNat : Int))) 16) ||| (toU64 (((ep).toNat : Int)))) 4) (hS.get 1 rfl); exact hep.st hS) (fun k => by unfold two; split <;> omega) (by rw [two_0]; omega)) ?_
  rintro _ X35 w ⟨a35, c35, rfl, hO35⟩ hS
  have hO35 : Own 1 a35 (4 + np) c35 (c8 ((bytesL ((shl64 (toU64 (((tp).toNat : Int))) 16) ||| (toU64 (((ep).toNat : Int)))) 4) ++ bsp)) X35 := hO35
  have hS := St.tailin (X := X35) hS [(b34, .cells (#[.slice (some ⟨q31, 0, none⟩) 4 4, .slice ap np capp]) 30), (q31, .cells (LB (bytesL ((shl64 (toU64 (((tp).toNat : Int))) 16) ||| (toU64 (((ep).toNat : Int)))) 4)) 5), (b7, .cells (BV (headV dn sp)) 166), (b3, .cells (#[I (dp), U64 (sp), U16 (tp), U16 (ep), .slice ap np capp]) 100)] [] rfl
  have hle35 := hO35.le
  refine lx (St.untail (A := [(b34, .cells (#[.slice (some ⟨q31, 0, none⟩) 4 4, .slice ap np capp]) 30), (q31, .cells (LB (bytesL ((shl64 (toU64 (((tp).toNat : Int))) 16) ||| (toU64 (((ep).toNat : Int)))) 4)) 5), (b7, .cells (BV (headV dn sp)) 166), (b3, .cells (#[I (dp), U64 (sp), U16 (tp), U16 (ep), .slice ap np capp]) 100)]) (X := X35) (R := []) hS).tl.tl fun jj =>?_
  refine dl 13 O (by kernel_rfl)<|asg O O O<|ly O<|de (by kernel_rfl)<|wt<|rd mo 7 (fun w =>St w0 [] [(b3, .cells (#[I (dp), U64 (sp), U16 (tp), U16 (ep), .slice ap np capp]) 100)] w)<|have hS := hS.drew; jx (hS.sl 4 8) fun jj =>dx 0 O (by kernel_rfl) (fun w hS =>a_all un166 ⟨_, sz5⟩ O O O rr) jj<|dx 1 O (by kernel_rfl) (fun w hS =>mv O O O rr) jj<|dx 4 O (by kernel_rfl) (fun w hS =>mv O O O rr) jj ?_
  refine dl 2 O (by kernel_rfl)<|la 2 ag166 hS O O O O (BV_size _)<|lx (hS.sl 4 8) fun jj =>?_
  refine dl 3 O (by kernel_rfl)<|cv cf86 hS O O O O O (sp_nonce_Whole ((headV dn sp)) _) fun w hS =>lx (hS.sl 4 8) fun jj =>?_
  refine dl 5 O (by kernel_rfl)<|cs cf85 hS O O O O O (sp_seal_Seal t c key ((nonceV (headV dn sp))) a35 ((4 + np)) c35 (((bytesL ((shl64 (toU64 (((tp).toNat : Int))) 16) ||| (toU64 (((ep).toNat : Int)))) 4) ++ bsp)) none 0 0 (([])) _ (hT.st hS) hO35.len8 (by omega) (hO35.cel hS (fun p hp =>by simp [hp])) (by omega) O (by omega) (Cel.nil _ _) (by omega) (hG.st hS)) ?_
  rintro _ X41 w ⟨a41, c41, rfl, hO41⟩ hS
  have hS := St.tailin (X := X41) hS [(b34, .cells (#[.slice (some ⟨q31, 0, none⟩) 4 4, .slice ap np capp]) 30), (q31, .cells (LB (bytesL ((shl64 (toU64 (((tp).toNat : Int))) 16) ||| (toU64 (((ep).toNat : Int)))) 4)) 5), (b7, .cells (BV (headV dn sp)) 166), (b3, .cells (#[I (dp), U64 (sp), U16 (tp), U16 (ep), .slice ap np capp]) 100)] (X35 ++ []) rfl
  refine lx (hS.sl 4 8) fun jj =>?_
  refine dl 6 O (by kernel_rfl)<|app (A := [(b34, .cells (#[.slice (some ⟨q31, 0, none⟩) 4 4, .slice ap np capp]) 30), (q31, .cells (LB (bytesL ((shl64 (toU64 (((tp).toNat : Int))) 16) ||| (toU64 (((ep).toNat : Int)))) 4)) 5), (b3, .cells (#[I (dp), U64 (sp), U16 (tp), U16 (ep), .slice ap np capp]) 100)]) (X := [(b7, .cells (BV (headV dn sp)) 166)]) (R := (X41 ++ (X35 ++ []))) sl30 (Own.blk (BV_size _) (by decide)) (St.toend (A := [(b34, .cells (#[.slice (some ⟨q31, 0, none⟩) 4 4, .slice ap np capp]) 30), (q31, .cells (LB (bytesL ((shl64 (toU64 (((tp).toNat : Int))) 16) ||| (toU64 (((ep).toNat : Int)))) 4)) 5), (b7, .cells (BV (headV dn sp)) 166), (b3, .cells (#[I (dp), U64 (sp), U16 (tp), U16 (ep), .slice ap np capp]) 100)]) (R := (X41 ++ (X35 ++ []))) hS 2 O) O O O O (src8 un30 _ (hO41.cel hS (fun p hp =>by simp [hp])) hO41.len8) (by omega) (by omega) fun a42 c42 X42 w hO42 hS =>?_
  rw [BV_toList, c8_app] at hO42
  refine lx (hS.sl 3 4) fun jj =>?_
  refine dl 7 O (by kernel_rfl)<|asg O O O<|ly O ?_
  refine dl 8 O (by kernel_rfl)<|asg O O O<|ly O<|de (by kernel_rfl)<|wt<|wc_ret<|fin2 (v := .slice a42 (8 + ((4 + np) + 16)) c42) (u := .nilIface) O O O ?_
  exact ⟨_, X42, rfl, ⟨_, _, _, enc_e0 hk, enc_ok hnp hk hdn hO42⟩, hS.sublist (.cons _ (.cons _ (.cons _ (List.sublist_append_left X42 (X41 ++ (X35 ++ []))))))⟩
theorem sp_stamp_Of (x : UInt64) (w0 : World) : Calls Tryz.prog 37 #[U64 x] w0 (Ret w0 (U16 (ofT x))) := by
 refine enter (args := [U64 x]) Tryz.func37 O O<|startw fun w hS =>rg<|asg O O O<|wt<|rg<|mv O O O<|cvu16 un36 ⟨_, un24⟩ O O O<|asg O O O<|wt<|wc_ret<|fin1 (v := U16 (toU16 (((x).toNat : Int)))) O O ?_
 exact ⟨rfl, hS.drop⟩
theorem sp_counter_Counter_Peek_1 (c : Int) (w0 : World) : Calls Tryz.prog 77 #[I c] w0 (Ret w0 (.tuple #[U64 0, .iface 33 (I c)])) := by
 refine enter (args := [I c]) Tryz.func77 O O<|startw fun w hS =>rg<|asg O O O<|asg O O O<|wt<|rg<|mv O O O<|mki cc33 O O O<|asg O O O<|asg O O O<|wt ?_
 refine wc_ret<|fin2 (v := U64 0) (u := (.iface 33 (I c))) O O O ?_
 exact ⟨rfl, hS.drop⟩
theorem sp_counter_Counter_Peek (pc E : Nat) (nx gvn : UInt64) (cl : Bool) (w0 : World) (hpc : w0.heap[pc]? = some (.cells (#[U64 nx, U64 gvn, .bool cl]) E)) : Calls Tryz.prog 33 #[Ptr pc 0] w0 (Ret w0 (.tuple #[U64 (pekV nx cl), errV 33 (pekE nx cl)])) := by
 refine enter (args := [Ptr pc 0]) Tryz.func33 O O<|startw fun w hS =>rg<|asg O O O<|asg O O O<|wt<|rg<|asg O O O<|wt<|wc_seq<|wc_block<|rg ?_
 refine mv O O O<|eqpn un81 O O O O<|mv O O O<|mv O O O<|nilp O O O<|fan 2 2 un151 O sz4 (by decide) O O O O (by omega)<|lod hpc List.not_mem_nil sc4 hS O O O O<|pk_f O O O O<|asg O O O<|wt ?_
 refine wc_if O (fun hc1 =>?_) (fun hc1 =>?_)
 ·try simp only [SB] at hc1
  refine rg<|mv O O O<|cv cf77 hS O O O O O (sp_counter_Counter_Peek_1 7 _) fun w hS =>ext O O O O<|ext O O O O<|asg O O O<|asg O O O<|wt<|wc_ret<|q_block_ret<|q_then_ret<|fin2 (v := U64 0) (u := (.iface 33 (I 7))) O O O ?_
  refine ⟨?_, hS.drop⟩
  first | (have hk : pekE nx cl = 7 := (by simp_all [pekE]); rw [pekV, hk]; rfl) | (have hk : pekE nx cl = 6 := (by unfold pekE; rw [if_neg (by simp_all), if_pos (by omega)]); rw [pekV, hk]; rfl) | (have hk : pekE nx cl = 0 := (by unfold pekE; rw [if_neg (by simp_all), if_neg (by omega)]); rw [pekV, hk]; rfl)
 ·try simp only [SB] at hc1
  refine rg<|mv O O O<|nilp O O O<|fan 0 0 un151 O sz24 (by decide) O O O O (by omega)<|lod hpc List.not_mem_nil sc24 hS O O O O<|geq O O O O<|asg O O O<|wt ?_
  refine wc_if O (fun hc2 =>?_) (fun hc2 =>?_)
  ·try simp only [SB] at hc2
   refine rg<|mv O O O<|cv cf77 hS O O O O O (sp_counter_Counter_Peek_1 6 _) fun w hS =>ext O O O O<|ext O O O O<|asg O O O<|asg O O O<|wt<|wc_ret<|q_block_ret<|q_then_ret<|fin2 (v := U64 0) (u := (.iface 33 (I 6))) O O O ?_
   refine ⟨?_, hS.drop⟩
   first | (have hk : pekE nx cl = 7 := (by simp_all [pekE]); rw [pekV, hk]; rfl) | (have hk : pekE nx cl = 6 := (by unfold pekE; rw [if_neg (by simp_all), if_pos (by omega)]); rw [pekV, hk]; rfl) | (have hk : pekE nx cl = 0 := (by unfold pekE; rw [if_neg (by simp_all), if_neg (by omega)]); rw [pekV, hk]; rfl)
  ·try simp only [SB] at hc2
   refine wc_skip<|q_block_norm<|wt<|rg<|mv O O O<|nilp O O O<|fan 0 0 un151 O sz24 (by decide) O O O O (by omega)<|lod hpc List.not_mem_nil sc24 hS O O O O<|asg O O O<|asg O O O<|wt<|wc_ret ?_
   refine fin2 (v := U64 nx) (u := .nilIface) O O O ?_
   refine ⟨?_, hS.drop⟩
   first | (have hk : pekE nx cl = 7 := (by simp_all [pekE]); rw [pekV, hk]; rfl) | (have hk : pekE nx cl = 6 := (by unfold pekE; rw [if_neg (by simp_all), if_pos (by omega)]); rw [pekV, hk]; rfl) | (have hk : pekE nx cl = 0 := (by unfold pekE; rw [if_neg (by simp_all), if_neg (by omega)]); rw [pekV, hk]; rfl)
theorem sp_counter_Counter_Next (pc E : Nat) (nx gvn : UInt64) (cl : Bool) (w0 : World) (hpc : w0.heap[pc]? = some (.cells (#[U64 (nx), U64 (gvn), .bool (cl)]) E)) (hk : pekE nx cl = 0) : Calls Tryz.prog 36 #[Ptr pc 0] w0 (RetM w0 [pc] (fun v L' => v = .tuple #[U64 nx, errV 33 0] ∧ L' = [(pc, .cells #[U64 (nx + 1), U64 (gvn + 1), .bool cl] E)])) := by
 refine enter (args := [Ptr pc 0]) Tryz.func36 O O<|startx (F := [pc]) (L := [(pc, .cells (#[U64 (nx), U64 (gvn), .bool (cl)]) E)]) (St.starts (X := [(pc, .cells (#[U64 (nx), U64 (gvn), .bool (cl)]) E)]) (fun p hp =>by simp only [List.mem_cons, List.not_mem_nil, or_false] at hp; subst hp; exact hpc) (by simp)) fun w hS =>?_
 have hv : pekV nx cl = nx := by rw [pekV, if_pos hk]
 refine rg<|asg O O O<|asg O O O<|wt<|rg<|mv O O O<|cv cf33 hS O O O O O (sp_counter_Counter_Peek pc _ nx gvn cl _ (hS.get 0 O)) fun w hS =>mv O O O<|ext O O O O<|ext O O O O<|asg O O O<|asg O O O ?_
 refine wt<|wc_seq<|rg<|mv O O O<|eqE (C := 33) (c := (pekE nx cl)) un27 O O O<|wt ?_
 refine wc_if O (fun hc1 =>?_) (fun hc1 =>?_)
 ·try simp only [SB] at hc1
  refine rg<|mv O O O<|nilp O O O<|fan 0 0 un151 O sz24 (by decide) O O O O (by omega)<|lo 0 sc24 hS O O O O O<|add64 (q := (1 : UInt64)) O O O O<|nilp O O O<|fan 0 0 un151 O sz24 (by decide) O O O O (by omega)<|st 0 sz24 hS O O O O O O (by show (0 : Nat) < 3; decide) O fun w hS =>wt<|wc_region<|mv O O O ?_
  refine nilp O O O<|fan 1 1 un151 O sz24 (by decide) O O O O (by omega)<|lo 0 sc24 hS O O O O O<|add64 (q := (1 : UInt64)) O O O O<|nilp O O O<|fan 1 1 un151 O sz24 (by decide) O O O O (by omega)<|st 0 sz24 hS O O O O O O (by show (1 : Nat) < 3; decide) O fun w hS =>wt<|rg<|mv O O O<|mv O O O<|asg O O O ?_
  refine asg O O O<|wt<|wc_ret<|fin2 (v := U64 (pekV nx cl)) (u := (errV 33 (pekE nx cl))) O O O ?_
  exact ⟨_, _, rfl, ⟨by rw [hv, hk], rfl⟩, hS⟩
 ·try simp only [SB] at hc1
  exact absurd hk hc1
theorem sp_session_first (sb E K : Nat) (ct : Array Value) (fi : Nat → Nat) (cp : Nat → List Value) (e : Nat → Nat) (w0 : World) (hK : K ≤ 100) (hb : w0.heap[sb]? = some (.cells ct E)) (hct : ∀ k, k < K → ct[k]? = some (.func (.func (fi k)) #[] (cp k).toArray)) (hca : ∀ k, k < K → Callable Tryz.prog (fi k)) (hC : ∀ k, k < K → ∀ W, St w0 [] [] W → Calls Tryz.prog (fi k) (cp k).toArray W (Ret W (errV 33 (e k)))) : Calls Tryz.prog 34 #[.slice (some ⟨sb, 0, none⟩) K K] w0 (Ret w0 (errV 33 (fstE e K))) := by
 refine enter (args := [.slice (some ⟨sb, 0, none⟩) K K]) Tryz.func34 O O<|startw fun w hS =>rg<|asg O O O<|wt<|wc_seq<|rg<|mv O O O<|lens un160 O O O<|mv O O O<|wt<|wc_block ?_
 refine wc_loop (σ := Nat) (fun k =>[(6, .slice (some ⟨sb, 0, none⟩) K K), (7, I (((K : Nat) : Int))), (8, I ((k : Int)))])
  (fun k w => (k ≤ K ∧ fstE e k = 0) ∧ St w0 [] [] w) (fun k => K - k) 0 ⟨rfl, rfl, rfl, trivial⟩ ⟨⟨by omega, rfl⟩, hS⟩ ?_
 rintro k w ⟨⟨hk, hz⟩, hS⟩
 refine rg<|lss O O O O<|wt<|wc_seq ?_
 refine wc_if O (fun hc1 =>?_) (fun hc1 =>?_)
 ·try simp only [SB] at hc1
  refine wc_skip<|wt<|wc_seq<|wc_block<|rg<|isn k un160 sz95 O O O O (by omega) (by omega)<|lod hb List.not_mem_nil sc95 hS O O O (hct k (by omega))<|asg O O O<|wt<|rg<|mv O O O<|cv (hca k (by omega)) hS O O O O O (hC k (by omega) w hS) fun w hS =>?_
  refine asg O O O<|wt<|rg<|mv O O O<|neE (C := 33) (c := (e k)) un27 O O O<|wt ?_
  refine wc_if O (fun hc2 =>?_) (fun hc2 =>?_)
  ·try simp only [SB] at hc2
   have hz2 : e k ≠ 0 := by simpa using hc2
   refine rg<|mv O O O<|asg O O O<|wt<|wc_ret<|q_block_ret<|q_then_ret<|q_then_ret<|q_block_ret<|q_then_ret<|fin1 (v := (errV 33 (e k))) O O ?_
   refine ⟨?_, hS.drop⟩
   rw [fstE_stop e K k (by omega) hz hz2]
  ·try simp only [SB] at hc2
   have hz1 : e k = 0 := by simpa using hc2
   refine wc_skip<|q_block_norm<|wt<|wc_region<|addi (by omega) (by omega) O O O O<|mv O O O ?_
   refine again_q (k + 1) ⟨O, O, lkI O (by first | omega | rfl), trivial⟩ ⟨⟨by omega, fstE_s e k hz hz1⟩, hS⟩ (by omega)
 ·try simp only [SB] at hc1
  refine wc_exit<|q_then_exit<|q_then_exit<|q_block_hit<|wt<|rg<|asg O O O<|wt<|wc_ret<|fin1 (v := .nilIface) O O ?_
  refine ⟨?_, hS.drop⟩
  have hk4 : k = K := by omega
  rw [← hk4, hz]; rfl
theorem sp_session_when (bad : Bool) (c : Int) (w0 : World) : Calls Tryz.prog 35 #[.bool bad, I c] w0 (RetS w0 (fun v L => ∃ b1 b2, v = .func (.func 78) #[] #[Ptr b1 0, Ptr b2 0] ∧ L = [(b2, .cells #[I c] 33), (b1, .cells #[.bool bad] 4)])) := by
 refine enter (args := [.bool bad, I c]) Tryz.func35 O O<|startw fun w hS =>rg<|bx1 hS O O O O fun b2 w hb2 hS =>bx1 hS O O O O fun b3 w hb3 hS =>asg O O O<|wt<|rg<|mkf O O O<|asg O O O<|wt<|wc_ret ?_
 refine fin1 (v := .func (.func 78) #[] #[Ptr b2 0, Ptr b3 0]) O O ?_
 exact ⟨_, _, rfl, ⟨_, _, rfl, rfl⟩, hS⟩
theorem sp_session_when_1 (p E q E2 : Nat) (bad : Bool) (c : Nat) (w0 : World) (hp : w0.heap[p]? = some (.cells (#[.bool bad]) E)) (hq : w0.heap[q]? = some (.cells (#[I (c : Int)]) E2)) (hc0 : c ≠ 0) : Calls Tryz.prog 78 #[Ptr p 0, Ptr q 0] w0 (Ret w0 (errV 33 (if bad = true then c else 0))) := by
 refine enter (args := [Ptr p 0, Ptr q 0]) Tryz.func78 O O<|startw fun w hS =>rg<|asg O O O<|wt<|wc_seq<|rg<|lod hp List.not_mem_nil sc4 hS O O O O<|wt ?_
 refine wc_if O (fun hc1 =>?_) (fun hc1 =>?_)
 ·try simp only [SB] at hc1
  refine rg<|lod hq List.not_mem_nil sc33 hS O O O O<|mki cc33 O O O<|asg O O O<|wt<|wc_ret<|q_then_ret<|fin1 (v := (.iface 33 (I ((c : Int))))) O O ?_
  refine ⟨?_, hS.drop⟩
  first | (rw [if_pos hc1, errV_s _ _ hc0]) | (rw [if_neg (by simp [hc1])]; rfl)
 ·try simp only [SB] at hc1
  refine wc_skip<|wt<|rg<|asg O O O<|wt<|wc_ret<|fin1 (v := .nilIface) O O ?_
  refine ⟨?_, hS.drop⟩
  first | (rw [if_pos hc1, errV_s _ _ hc0]) | (rw [if_neg (by simp [hc1])]; rfl)
theorem sp_session_Session_Send_1 (b E3 : Nat) (s E pp dr t pc pf pe : Nat) (rl : UInt16) (rc : Nat) (re : UInt32) (fs : UInt64) (cz : Bool) (E2 : Nat) (nx gvn : UInt64) (ccl : Bool) (w0 : World) (hb : w0.heap[b]? = some (.cells (#[Ptr s 0]) E3)) (hs : w0.heap[s]? = some (.cells (#[Ptr pp 0, I ((dr : Nat) : Int), Ptr t 0, Ptr pc 0, Ptr pf 0, Ptr pe 0, U16 rl, I ((rc : Nat) : Int), U32 re, U64 fs, .bool cz]) E)) (hpc : w0.heap[pc]? = some (.cells (#[U64 nx, U64 gvn, .bool ccl]) E2)) : Calls Tryz.prog 32 #[Ptr b 0] w0 (Ret w0 (errV 33 (pekE nx ccl))) := by
 refine enter (args := [Ptr b 0]) Tryz.func32 O O<|startw fun w hS =>rg<|asg O O O<|wt<|rg<|lod hb List.not_mem_nil sc25 hS O O O O<|nilp O O O<|fan 3 3 un90 O sz81 (by decide) O O O O (by omega)<|lod hs List.not_mem_nil sc81 hS O O O O<|cv cf33 hS O O O O O (sp_counter_Counter_Peek pc _ nx gvn ccl _ (hS.old hpc List.not_mem_nil)) fun w hS =>mv O O O ?_
 refine ext O O O O<|ext O O O O<|asg O O O<|asg O O O<|wt<|rg<|mv O O O<|asg O O O<|wt<|wc_ret<|fin1 (v := (errV 33 (pekE nx ccl))) O O ?_
 exact ⟨rfl, hS.drop⟩
theorem sp_Held0 (pe E : Nat) (x : UInt64) (w0 : World) (hpe : w0.heap[pe]? = some (.cells (#[.pointer none]) E)) : Calls Tryz.prog 79 #[Ptr pe 0, U64 x] w0 (Ret w0 (.tuple #[U64 0, .bool false])) := by
 refine enter (args := [Ptr pe 0, U64 x]) Tryz.func79 O O<|startw fun w hS =>rg<|asg O O O<|asg O O O<|wt<|wc_seq<|rg<|mv O O O<|eqpn un85 O O O O<|mv O O O<|mv O O O ?_
 refine nilp O O O<|fan 0 0 un158 O sz156 (by decide) O O O O (by omega)<|lod hpe List.not_mem_nil sc156 hS O O O O<|eqpp un156 O O O O<|pk_f O O O O<|wt<|wc_if_t O<|rg<|asg O O O<|asg O O O<|wt<|wc_ret ?_
 refine q_then_ret<|fin2 (v := U64 0) (u := .bool false) O O O ?_
 exact ⟨rfl, hS.drop⟩
theorem sp_Reply0 (pe E : Nat) (x : UInt64) (w0 : World) (hpe : w0.heap[pe]? = some (.cells (#[(.pointer none)]) E)) : Calls Tryz.prog 38 #[Ptr pe 0, U64 x] w0 (RetM w0 [pe] (fun v L' => v = U16 65535 ∧ L' = [(pe, .cells #[.pointer none] E)])) := by
 refine enter (args := [Ptr pe 0, U64 x]) Tryz.func38 O O<|startx (F := [pe]) (L := [(pe, .cells (#[(.pointer none)]) E)]) (St.starts (X := [(pe, .cells (#[(.pointer none)]) E)]) (fun p hp =>by simp only [List.mem_cons, List.not_mem_nil, or_false] at hp; subst hp; exact hpe) (by simp)) fun w hS =>rg<|asg O O O<|wt<|rg<|mv O O O<|mv O O O<|cv cf79 hS O O O O O (sp_Held0 pe _ x _ (hS.get 0 O)) fun w hS =>mv O O O<|ext O O O O<|ext O O O O ?_
 refine asg O O O<|asg O O O<|wt<|wc_seq<|rg<|mv O O O<|notb O O O<|wt<|wc_if_t O<|rg<|asg O O O<|wt ?_
 refine wc_ret<|q_then_ret<|fin1 (v := U16 65535) O O ?_
 exact ⟨_, _, rfl, ⟨rfl, rfl⟩, hS⟩
theorem sp_stamp_Add (s : UInt16) (k : Nat) (k_ : Int) (w0 : World) (hk_ : k_ = (k : Int)) : Calls Tryz.prog 114 #[U16 s, I k_] w0 (Ret w0 (U16 (s + toU16 ((k : Nat) : Int)))) := by
 subst hk_
 refine enter (args := [U16 s, I (k : Int)]) Tryz.func114 O O<|startw fun w hS =>rg<|asg O O O<|wt<|rg<|mv O O O<|mv O O O<|cvu16 un36 ⟨_, un3⟩ O O O<|add16 O O O O<|asg O O O<|wt ?_
 refine wc_ret<|fin1 (v := U16 (s + (toU16 ((k : Int))))) O O ?_
 exact ⟨rfl, hS.drop⟩
theorem sp_stamp_Echo (s : UInt16) (h : UInt64) (w0 : World) : Calls Tryz.prog 80 #[U16 s, U64 h] w0 (Ret w0 (U16 (echoN s h))) := by
 refine enter (args := [U16 s, U64 h]) Tryz.func80 O O<|startw fun w hS =>rg<|asg O O O<|wt<|wc_seq<|rg<|mv O O O<|gtr O O O O<|wt ?_
 refine wc_if O (fun hc1 =>?_) (fun hc1 =>?_)
 ·try simp only [SB] at hc1
  refine rg<|asg O O O<|wt<|wc_ret<|q_then_ret<|fin1 (v := U16 65535) O O ?_
  refine ⟨?_, hS.drop⟩
  rw [echoN, if_pos (by omega)]
 ·try simp only [SB] at hc1
  refine wc_skip<|wt<|rg<|mv O O O<|mv O O O<|cvi un3 ⟨_, un24⟩ (by omega) (by omega) O O O<|cv cf114 hS O O O O O (sp_stamp_Add s (((h).toNat)) _ _ (by omega)) fun w hS =>asg O O O<|wt<|wc_ret<|fin1 (v := U16 (s + toU16 ((((h).toNat) : Nat) : Int))) O O ?_
  refine ⟨?_, hS.drop⟩
  rw [echoN, if_neg (by omega)]
theorem sp_echo_kept_held (s : UInt16) (t x : UInt64) (w0 : World) : Calls Tryz.prog 113 #[.agg #[U16 s, U64 t], U64 x] w0 (Ret w0 (U64 (heldV t x))) := by
 refine enter (args := [.agg #[U16 s, U64 t], U64 x]) Tryz.func113 O O<|startw fun w hS =>rg<|bxa hS O O O fun b2 w hb2 hS =>asg O O O<|wt<|wc_seq<|rg<|mv O O O<|fan 1 1 un164 O sz24 (by decide) O O O O (by omega)<|lo 0 sc24 hS O O O O O<|lss O O O O ?_
 refine wt ?_
 refine wc_if O (fun hc1 =>?_) (fun hc1 =>?_)
 ·try simp only [SB] at hc1
  refine rg<|asg O O O<|wt<|wc_ret<|q_then_ret<|fin1 (v := U64 0) O O ?_
  refine ⟨?_, hS.drop⟩
  rw [heldV, if_pos (by omega)]
 ·try simp only [SB] at hc1
  refine wc_skip<|wt<|rg<|mv O O O<|fan 1 1 un164 O sz24 (by decide) O O O O (by omega)<|lo 0 sc24 hS O O O O O<|sub64 O O O O<|asg O O O<|wt<|wc_ret<|fin1 (v := U64 (x - t)) O O ?_
  refine ⟨?_, hS.drop⟩
  rw [heldV, if_neg (by omega)]
theorem sp_Held1 (pe E pk E2 : Nat) (s : UInt16) (t x : UInt64) (w0 : World) (hpe : w0.heap[pe]? = some (.cells (#[Ptr pk 0]) E)) (hpk : w0.heap[pk]? = some (.cells (#[U16 s, U64 t]) E2)) : Calls Tryz.prog 79 #[Ptr pe 0, U64 x] w0 (Ret w0 (.tuple #[U64 (heldV t x), .bool true])) := by
 refine enter (args := [Ptr pe 0, U64 x]) Tryz.func79 O O<|startw fun w hS =>rg<|asg O O O<|asg O O O<|wt<|wc_seq<|rg<|mv O O O<|eqpn un85 O O O O<|mv O O O<|mv O O O ?_
 refine nilp O O O<|fan 0 0 un158 O sz156 (by decide) O O O O (by omega)<|lod hpe List.not_mem_nil sc156 hS O O O O<|eqpn un156 O O O O<|pk_f O O O O<|wt<|wc_if_f O<|wc_skip<|wt<|rg<|mv O O O<|nilp O O O ?_
 refine fan 0 0 un158 O sz156 (by decide) O O O O (by omega)<|lod hpe List.not_mem_nil sc156 hS O O O O<|nilp O O O<|lad hpk List.not_mem_nil ag164 hS O O O O<|mv O O O<|cv cf113 hS O O O O O (sp_echo_kept_held s t x _) fun w hS =>asg O O O<|asg O O O<|wt<|wc_ret<|fin2 (v := U64 (heldV t x)) (u := .bool true) O O O ?_
 exact ⟨rfl, hS.drop⟩
theorem sp_Reply1 (pe E : Nat) (pk E2 : Nat) (s : UInt16) (t x : UInt64) (w0 : World) (hpe : w0.heap[pe]? = some (.cells (#[Ptr pk 0]) E)) (hpk : w0.heap[pk]? = some (.cells (#[U16 (s), U64 (t)]) E2)) (hnd : ([pe, pk] : List Nat).Nodup) : Calls Tryz.prog 38 #[Ptr pe 0, U64 x] w0 (RetM w0 [pe, pk] (fun v L' => v = U16 (echoN s (heldV t x)) ∧ L' = [(pe, .cells #[.pointer none] E), (pk, .cells #[U16 s, U64 t] E2)])) := by
 refine enter (args := [Ptr pe 0, U64 x]) Tryz.func38 rfl rfl <| startx (F := [pe, pk]) (L := [(pe, .cells (#[Ptr pk 0]) E), (pk, .cells (#[U16 (s), U64 (t)]) E2)]) (St.starts (X := [(pe, .cells (#[Ptr pk 0]) E), (pk, .cells (#[U16 (s), U64 (t)]) E2)]) (fun p hp => by simp only [List.mem_cons, List.not_mem_nil, or_false] at hp; rcases hp with rfl | rfl; exact hpe; exact hpk) hnd) fun w hS => rg <| asg rfl rfl rfl <| wq_then <| rg <| mv rfl rfl rfl <| mv rfl rfl rfl <| cv cf79 hS rfl rfl rfl rfl rfl (sp_Held1 (pe) (_) (pk) (_) (s) (t) (x) _ (hS.get 0 rfl) (hS.get 1 rfl)) fun w hS => mv rfl rfl rfl <| ext rfl rfl rfl rfl <| ext rfl rfl rfl rfl ?_
 refine asg O O O<|asg O O O<|wt<|wc_seq<|rg<|mv O O O<|notb O O O<|wt<|wc_if_f O<|wc_skip<|wt<|rg ?_
 refine mv O O O<|nilp O O O<|fan 0 0 un158 O sz156 (by decide) O O O O (by omega)<|lo 0 sc156 hS O O O O O<|nilp O O O<|fan 0 0 un164 O sz36 (by decide) O O O O (by omega)<|lo 1 sc36 hS O O O O O<|mv O O O<|cv cf80 hS O O O O O (sp_stamp_Echo s ((heldV t x)) _) fun w hS =>asg O O O<|wt<|rg ?_
 refine mv O O O<|nilp O O O<|fan 0 0 un158 O sz156 (by decide) O O O O (by omega)<|st 0 sz156 hS O O O O O O Nat.zero_lt_one O fun w hS =>wt<|rg<|mv O O O<|asg O O O<|wt<|wc_ret<|fin1 (v := U16 (echoN s (heldV t x))) O O ?_
 exact ⟨_, _, rfl, ⟨rfl, rfl⟩, hS⟩
theorem sp_EchoReply (pe : Nat) (kp : Option (UInt16 × UInt64)) (x : UInt64) (Z : List (Nat × Obj)) (w0 : World) (hE : EchO pe kp Z) (hZ : ∀ p ∈ Z, w0.heap[p.1]? = some p.2) (hnd : (Z.map Prod.fst).Nodup) : Calls Tryz.prog 38 #[Ptr pe 0, U64 x] w0 (RetM w0 (Z.map Prod.fst) fun v Y => v = U16 (replyV kp x) ∧ EchO pe none Y) := by
  obtain ⟨E, ⟨rfl, rfl⟩ | ⟨pk, s, t, E2, rfl, rfl⟩⟩ := hE
  · exact (sp_Reply0 pe E x w0 (hZ (pe, _) (by simp))).mono fun e w' ⟨v, L, he, ⟨hv, hL⟩, hS⟩ => ⟨v, L, he, ⟨hv, E, .inl ⟨rfl, hL⟩⟩, hS⟩
  · refine (sp_Reply1 pe E pk E2 s t x w0 (hZ (pe, _) (by simp)) (hZ (pk, _) (by simp)) hnd).mono fun e w' ⟨v, L, he, ⟨hv, hL⟩, hS⟩ => ⟨v, [(pe, .cells #[.pointer none] E)], he, ⟨hv, E, .inl ⟨rfl, rfl⟩⟩, ?_⟩
    subst hL; exact hS.sublist (by simp)
theorem sp_session_Session_Send (s : Nat) (m : SS) (X : List (Nat × Obj)) (a : Option Addr) (n cap : Nat) (bs : List UInt8) (x : UInt64) (w0 : World) (hO : SesO s m X) (hX : ∀ p ∈ X, w0.heap[p.1]? = some p.2) (hnd : (X.map Prod.fst).Nodup) (hn : bs.length = n) (hN : n ≤ 1000000) (hcap : n ≤ cap) (hc : CelX (X.map Prod.fst) w0 a (c8 bs)) (hG : GlX 1 (X.map Prod.fst) w0) : Calls Tryz.prog 10 #[Ptr s 0, .slice a n cap, U64 x] w0 (RetM w0 (X.map Prod.fst) (fun v L' => ∃ a' n' c' X' Y, v = .tuple #[.slice a' n' c', Str (sndA m n), errV 33 (sndE m n)] ∧ SesO s (sndM m n) X' ∧ Gives a' n' c' (sndB m bs x) Y ∧ L' = X' ++ Y)) := by
 refine enter (args := [Ptr s 0, .slice a n cap, U64 x]) Tryz.func10 O O ?_
 obtain ⟨G, hGe⟩ : ∃ G, G = X.map Prod.fst := ⟨_, rfl⟩
 rw [← hGe] at hc hG ⊢
 obtain ⟨pp, pm, pc, pf, pe, t, c, E1, E2, E3, E4, E5, E6, mm, Z, hd1, hE, hXe⟩ := hO
 subst hXe
 refine startx (F := G) (L := [(s, .cells (#[Ptr pp 0, I (((m.dir : Nat) : Int)), Ptr t 0, Ptr pc 0, Ptr pf 0, Ptr pe 0, U16 (m.rl), I (((m.rc : Nat) : Int)), U32 (m.re), U64 (m.fs), .bool (m.cz)]) E1), (pf, .cells (#[I (((m.ac : Nat) : Int)), I (((m.rf : Nat) : Int)), U64 (m.ls)]) E2), (pc, .cells (#[U64 (m.nx), U64 (m.gv), .bool (false)]) E3), (t, .cells (tableC c m.key) E4), (c, .cells (cipherC m.key) E5), (pp, .cells (#[Str m.ad, .bool (m.fx), I (((m.mv : Nat) : Int)), .map (some pm)]) E6), (pm, mOb encS vI mm)] ++ (Z ++ [])) (by rw [hGe, List.append_nil]; exact St.starts hX hnd) fun w hS =>rg<|bx1 hS O O O O fun b3 w hb3 hS =>asg O O O<|asg O O O<|asg O O O<|wt<|wc_seq<|rg<|lo 0 sc25 hS O O O O O<|eqpn un25 O O O O<|wt ?_
 refine wc_if_f O<|wc_skip<|wt<|rg<|lo 0 sc25 hS O O O O O<|nilp O O O<|fan 0 0 un90 O sz76 (by decide) O O O O (by omega)<|lo 1 sc76 hS O O O O O<|cv cf31 hS O O O O O (sp_peer_Peer_Address pp _ _ m.ad m.fx m.mv _ (hS.get 6 O)) fun w hS =>mv O O O<|ext O O O O<|ext O O O O ?_
 refine asg O O O<|asg O O O<|wt<|rg<|mkf O O O<|asg O O O<|wt<|wc_seq<|rg<|lo 0 sc25 hS O O O O O<|nilp O O O<|fan 10 10 un90 O sz4 (by decide) O O O O (by omega) ?_
 refine lo 1 sc4 hS O O O O O<|cs cf35 hS O O O O O (sp_session_when m.cz 7 _) ?_
 rintro _ _ w ⟨p33, q33, rfl, rfl⟩ hS
 refine mv O O O<|lens un30 O O O<|gtr O O O O<|cs cf35 hS O O O O O (sp_session_when ((decide (((n : Nat) : Int) > 1200))) 2 _) ?_
 rintro _ _ w ⟨p37, q37, rfl, rfl⟩ hS
 refine mv O O O<|notb O O O<|cs cf35 hS O O O O O (sp_session_when ((!(decide (m.ad ≠ [])))) 12 _) ?_
 rintro _ _ w ⟨p40, q40, rfl, rfl⟩ hS
 refine mv O O O<|bsl (cs := #[.func (.func 78) #[] #[Ptr p33 0, Ptr q33 0], .func (.func 78) #[] #[Ptr p37 0, Ptr q37 0], .func (.func 78) #[] #[Ptr p40 0, Ptr q40 0], .func (.func 32) #[] #[Ptr b3 0]]) sl160 hS O O O O (by kernel_rfl) fun b42 w hb42 hS =>?_
 refine cv cf34 hS rfl rfl rfl rfl rfl (sp_session_first b42 95 4 _ (nth4 78 78 78 32) (nth4 ([Ptr p33 0, Ptr q33 0]) ([Ptr p37 0, Ptr q37 0]) ([Ptr p40 0, Ptr q40 0]) ([Ptr b3 0])) (nth4 (if m.cz = true then 7 else 0) (if (decide (((n : Nat) : Int) > 1200)) = true then 2 else 0) (if (!(decide (m.ad ≠ []))) = true then 12 else 0) (pekE m.nx false)) _ (by omega) (hS.get 0 rfl) (fun k hk => by rcases (show k = 0 ∨ k = 1 ∨ k = 2 ∨ k = 3 by omega) with rfl | rfl | rfl | rfl <;> rfl) (fun k hk => by rcases (show k = 0 ∨ k = 1 ∨ k = 2 ∨ k = 3 by omega) with rfl | rfl | rfl | rfl <;> first | exact cf32 | exact cf78) (fun k hk W hW => by
   rcases (show k = 0 ∨ k = 1 ∨ k = 2 ∨ k = 3 by omega) with rfl | rfl | rfl | rfl
   ·exact sp_session_when_1 p33 _ q33 _ m.cz 7 W (hW.old (hS.get 6 rfl) List.not_mem_nil) (hW.old (hS.get 5 rfl) List.not_mem_nil) (by decide)
   ·exact sp_session_when_1 p37 _ q37 _ (decide (((n : Nat) : Int) > 1200)) 2 W (hW.old (hS.get 4 rfl) List.not_mem_nil) (hW.old (hS.get 3 rfl) List.not_mem_nil) (by decide)
   ·exact sp_session_when_1 p40 _ q40 _ (!(decide (m.ad ≠ []))) 12 W (hW.old (hS.get 2 rfl) List.not_mem_nil) (hW.old (hS.get 1 rfl) List.not_mem_nil) (by decide)
   ·exact sp_session_Session_Send_1 b3 _ s _ _ _ _ _ _ _ _ _ _ _ _ _ _ _ _ W (hW.old (hS.get 7 rfl) List.not_mem_nil) (hW.old (hS.get 8 rfl) List.not_mem_nil) (hW.old (hS.get 10 rfl) List.not_mem_nil))) ?_
 intro w hS
 refine asg O O O<|wt<|rg<|mv O O O<|neE (C := 33) (c := (fstE (nth4 (if m.cz = true then 7 else 0) (if (decide (((n : Nat) : Int) > 1200)) = true then 2 else 0) (if (!(decide (m.ad ≠ []))) = true then 12 else 0) (pekE m.nx false)) 4)) un27 O O O<|wt ?_
 refine wc_if O (fun hc1 =>?_) (fun hc1 =>?_)
 ·try simp only [SB] at hc1
  have hE2 : ¬ sndE m n = 0 := by simpa [sndE] using hc1
  refine rg<|mv O O O<|asg O O O<|asg O O O<|asg O O O<|wt<|wc_ret<|q_then_ret<|fin3 (v := (.slice none 0 0)) (u := Str ([])) (x := (errV 33 (fstE (nth4 (if m.cz = true then 7 else 0) (if (decide (((n : Nat) : Int) > 1200)) = true then 2 else 0) (if (!(decide (m.ad ≠ []))) = true then 12 else 0) (pekE m.nx false)) 4))) O O O O ?_
  have eM : sndM m n = m := if_neg hE2
  have eA : sndA m n = [] := if_neg hE2
  have eB : sndB m bs x = [] := by rw [sndB, hn, if_neg hE2]
  exact ⟨_, _, rfl, ⟨none, 0, 0, [(s, .cells (#[Ptr pp 0, I (((m.dir : Nat) : Int)), Ptr t 0, Ptr pc 0, Ptr pf 0, Ptr pe 0, U16 (m.rl), I (((m.rc : Nat) : Int)), U32 (m.re), U64 (m.fs), .bool (m.cz)]) E1), (pf, .cells (#[I (((m.ac : Nat) : Int)), I (((m.rf : Nat) : Int)), U64 (m.ls)]) E2), (pc, .cells (#[U64 (m.nx), U64 (m.gv), .bool (false)]) E3), (t, .cells (tableC c m.key) E4), (c, .cells (cipherC m.key) E5), (pp, .cells (#[Str m.ad, .bool (m.fx), I (((m.mv : Nat) : Int)), .map (some pm)]) E6), (pm, mOb encS vI mm)] ++ Z, [], by rw [eA]; rfl, by rw [eM]; exact ⟨pp, pm, pc, pf, pe, t, c, _, _, _, _, _, _, _, _, hd1, hE, rfl⟩, by rw [eB]; exact Gives.nil, rfl⟩, St.pk0 (U := [(b42, .cells (#[.func (.func 78) #[] #[Ptr p33 0, Ptr q33 0], .func (.func 78) #[] #[Ptr p37 0, Ptr q37 0], .func (.func 78) #[] #[Ptr p40 0, Ptr q40 0], .func (.func 32) #[] #[Ptr b3 0]]) 95), (q40, .cells (#[I (12)]) 33), (p40, .cells (#[.bool ((!(decide (m.ad ≠ []))))]) 4), (q37, .cells (#[I (2)]) 33), (p37, .cells (#[.bool ((decide (((n : Nat) : Int) > 1200)))]) 4), (q33, .cells (#[I (7)]) 33), (p33, .cells (#[.bool (m.cz)]) 4), (b3, .cells (#[Ptr s 0]) 25)]) (B := [(s, .cells (#[Ptr pp 0, I (((m.dir : Nat) : Int)), Ptr t 0, Ptr pc 0, Ptr pf 0, Ptr pe 0, U16 (m.rl), I (((m.rc : Nat) : Int)), U32 (m.re), U64 (m.fs), .bool (m.cz)]) E1), (pf, .cells (#[I (((m.ac : Nat) : Int)), I (((m.rf : Nat) : Int)), U64 (m.ls)]) E2), (pc, .cells (#[U64 (m.nx), U64 (m.gv), .bool (false)]) E3), (t, .cells (tableC c m.key) E4), (c, .cells (cipherC m.key) E5), (pp, .cells (#[Str m.ad, .bool (m.fx), I (((m.mv : Nat) : Int)), .map (some pm)]) E6), (pm, mOb encS vI mm)]) (Z := Z) (R := []) hS⟩
 ·try simp only [SB] at hc1
  have hE2 : sndE m n = 0 := by simpa [sndE] using hc1
  obtain ⟨h1, h2, h3, h4⟩ := fst4_0.1 hE2
  have hn12 : n ≤ 1200 := by simp at h2; omega
  refine wc_skip<|wt<|rg<|lo 7 sc25 hS O O O O O<|nilp O O O<|fan 3 3 un90 O sz81 (by decide) O O O O (by omega)<|lo 8 sc81 hS O O O O O<|cm cf36 O O O O O (sp_counter_Counter_Next pc _ m.nx m.gv false _ (hS.get 10 O) (by assumption)) ?_
  rintro _ _ w ⟨rfl, rfl⟩ hS1
  have hS : St w0 G ([(b42, .cells (#[.func (.func 78) #[] #[Ptr p33 0, Ptr q33 0], .func (.func 78) #[] #[Ptr p37 0, Ptr q37 0], .func (.func 78) #[] #[Ptr p40 0, Ptr q40 0], .func (.func 32) #[] #[Ptr b3 0]]) 95), (q40, .cells (#[I (12)]) 33), (p40, .cells (#[.bool ((!(decide (m.ad ≠ []))))]) 4), (q37, .cells (#[I (2)]) 33), (p37, .cells (#[.bool ((decide (((n : Nat) : Int) > 1200)))]) 4), (q33, .cells (#[I (7)]) 33), (p33, .cells (#[.bool (m.cz)]) 4), (b3, .cells (#[Ptr s 0]) 25), (s, .cells (#[Ptr pp 0, I (((m.dir : Nat) : Int)), Ptr t 0, Ptr pc 0, Ptr pf 0, Ptr pe 0, U16 (m.rl), I (((m.rc : Nat) : Int)), U32 (m.re), U64 (m.fs), .bool (m.cz)]) E1), (pf, .cells (#[I (((m.ac : Nat) : Int)), I (((m.rf : Nat) : Int)), U64 (m.ls)]) E2), (pc, .cells (#[U64 (m.nx + 1), U64 (m.gv + 1), .bool (false)]) E3), (t, .cells (tableC c m.key) E4), (c, .cells (cipherC m.key) E5), (pp, .cells (#[Str m.ad, .bool (m.fx), I (((m.mv : Nat) : Int)), .map (some pm)]) E6), (pm, mOb encS vI mm)] ++ (Z ++ [])) w := St.calls (L1 := [(pc, .cells (#[U64 (m.nx), U64 (m.gv), .bool (false)]) E3)]) (N := [(pc, .cells (#[U64 (m.nx + 1), U64 (m.gv + 1), .bool (false)]) E3)]) (L2 := []) hS [10] rfl rfl hS1
  refine mv O O O<|ext O O O O<|ext O O O O<|asg O O O<|asg O O O<|wt ?_
  refine sqj (fun l w =>∃ (Y67 : List (Nat × Obj)) (b15 : Nat), (EchO pe none Y67) ∧ l = [(3, Ptr b3 0), (6, (.slice none 0 0)), (7, Str ([])), (8, .nilIface), (9, (Str m.ad)), (15, Ptr b15 0)] ∧ St w0 G ([(b15, .cells (#[I (((m.dir : Nat) : Int)), U64 (m.nx), U16 (ofT x), U16 (replyV m.kp x), .slice a n cap]) 100), (b42, .cells (#[.func (.func 78) #[] #[Ptr p33 0, Ptr q33 0], .func (.func 78) #[] #[Ptr p37 0, Ptr q37 0], .func (.func 78) #[] #[Ptr p40 0, Ptr q40 0], .func (.func 32) #[] #[Ptr b3 0]]) 95), (q40, .cells (#[I (12)]) 33), (p40, .cells (#[.bool ((!(decide (m.ad ≠ []))))]) 4), (q37, .cells (#[I (2)]) 33), (p37, .cells (#[.bool ((decide (((n : Nat) : Int) > 1200)))]) 4), (q33, .cells (#[I (7)]) 33), (p33, .cells (#[.bool (m.cz)]) 4), (b3, .cells (#[Ptr s 0]) 25), (s, .cells (#[Ptr pp 0, I (((m.dir : Nat) : Int)), Ptr t 0, Ptr pc 0, Ptr pf 0, Ptr pe 0, U16 (m.rl), I (((m.rc : Nat) : Int)), U32 (m.re), U64 (m.fs), .bool (m.cz)]) E1), (pf, .cells (#[I (((m.ac : Nat) : Int)), I (((m.rf : Nat) : Int)), U64 (m.ls)]) E2), (pc, .cells (#[U64 (m.nx + 1), U64 (m.gv + 1), .bool (false)]) E3), (t, .cells (tableC c m.key) E4), (c, .cells (cipherC m.key) E5), (pp, .cells (#[Str m.ad, .bool (m.fx), I (((m.mv : Nat) : Int)), .map (some pm)]) E6), (pm, mOb encS vI mm)] ++ (Y67 ++ [])) w) ?_ ?_
  ·refine wc_draw mo 16 (fun w =>St w0 G [(b3, .cells (#[Ptr s 0]) 25), (s, .cells (#[Ptr pp 0, I (((m.dir : Nat) : Int)), Ptr t 0, Ptr pc 0, Ptr pf 0, Ptr pe 0, U16 (m.rl), I (((m.rc : Nat) : Int)), U32 (m.re), U64 (m.fs), .bool (m.cz)]) E1)] w)<|have hS := hS.drew; jx (hS.sl 9 384) fun jj =>dx 0 O (by kernel_rfl) (fun w hS =>lo 0 sc25 hS O O O O O rr) jj<|dx 1 O (by kernel_rfl) (fun w hS =>nilp O O O rr) jj<|dx 2 O (by kernel_rfl) (fun w hS =>fan 1 1 un90 O sz3 (by decide) O O O O (by omega) rr) jj<|dx 3 O (by kernel_rfl) (fun w hS =>lo 1 sc3 hS O O O O O rr) jj<|dx 4 O (by kernel_rfl) (fun w hS =>mv O O O rr) jj<|dx 5 O (by kernel_rfl) (fun w hS =>mv O O O rr) jj<|dx 7 O (by kernel_rfl) (fun w hS =>lo 0 sc25 hS O O O O O rr) jj<|dx 8 O (by kernel_rfl) (fun w hS =>nilp O O O rr) jj<|dx 9 O (by kernel_rfl) (fun w hS =>fan 5 5 un90 O sz85 (by decide) O O O O (by omega) rr) jj<|dx 10 O (by kernel_rfl) (fun w hS =>lo 1 sc85 hS O O O O O rr) jj ?_
   refine dx 11 O (by kernel_rfl) (fun w hS =>mv O O O rr) jj<|dx 13 O (by kernel_rfl) (fun w hS =>mv O O O rr) jj ?_
   refine dl2 6 15 O O (by kernel_rfl) ?_ ?_
   ·refine cv cf37 hS O O O O O (sp_stamp_Of x _) fun w hS =>lx (hS.sl 9 384) fun jj =>?_
    refine dl2 12 15 O O (by kernel_rfl) ?_ ?_
    ·refine cm cf38 O O O O O (sp_EchoReply pe m.kp x Z _ hE (St.memT (A := [(b42, .cells (#[.func (.func 78) #[] #[Ptr p33 0, Ptr q33 0], .func (.func 78) #[] #[Ptr p37 0, Ptr q37 0], .func (.func 78) #[] #[Ptr p40 0, Ptr q40 0], .func (.func 32) #[] #[Ptr b3 0]]) 95), (q40, .cells (#[I (12)]) 33), (p40, .cells (#[.bool ((!(decide (m.ad ≠ []))))]) 4), (q37, .cells (#[I (2)]) 33), (p37, .cells (#[.bool ((decide (((n : Nat) : Int) > 1200)))]) 4), (q33, .cells (#[I (7)]) 33), (p33, .cells (#[.bool (m.cz)]) 4), (b3, .cells (#[Ptr s 0]) 25), (s, .cells (#[Ptr pp 0, I (((m.dir : Nat) : Int)), Ptr t 0, Ptr pc 0, Ptr pf 0, Ptr pe 0, U16 (m.rl), I (((m.rc : Nat) : Int)), U32 (m.re), U64 (m.fs), .bool (m.cz)]) E1), (pf, .cells (#[I (((m.ac : Nat) : Int)), I (((m.rf : Nat) : Int)), U64 (m.ls)]) E2), (pc, .cells (#[U64 (m.nx + 1), U64 (m.gv + 1), .bool (false)]) E3), (t, .cells (tableC c m.key) E4), (c, .cells (cipherC m.key) E5), (pp, .cells (#[Str m.ad, .bool (m.fx), I (((m.mv : Nat) : Int)), .map (some pm)]) E6), (pm, mOb encS vI mm)]) (X := Z) (R := []) hS) (St.nodupT (A := [(b42, .cells (#[.func (.func 78) #[] #[Ptr p33 0, Ptr q33 0], .func (.func 78) #[] #[Ptr p37 0, Ptr q37 0], .func (.func 78) #[] #[Ptr p40 0, Ptr q40 0], .func (.func 32) #[] #[Ptr b3 0]]) 95), (q40, .cells (#[I (12)]) 33), (p40, .cells (#[.bool ((!(decide (m.ad ≠ []))))]) 4), (q37, .cells (#[I (2)]) 33), (p37, .cells (#[.bool ((decide (((n : Nat) : Int) > 1200)))]) 4), (q33, .cells (#[I (7)]) 33), (p33, .cells (#[.bool (m.cz)]) 4), (b3, .cells (#[Ptr s 0]) 25), (s, .cells (#[Ptr pp 0, I (((m.dir : Nat) : Int)), Ptr t 0, Ptr pc 0, Ptr pf 0, Ptr pe 0, U16 (m.rl), I (((m.rc : Nat) : Int)), U32 (m.re), U64 (m.fs), .bool (m.cz)]) E1), (pf, .cells (#[I (((m.ac : Nat) : Int)), I (((m.rf : Nat) : Int)), U64 (m.ls)]) E2), (pc, .cells (#[U64 (m.nx + 1), U64 (m.gv + 1), .bool (false)]) E3), (t, .cells (tableC c m.key) E4), (c, .cells (cipherC m.key) E5), (pp, .cells (#[Str m.ad, .bool (m.fx), I (((m.mv : Nat) : Int)), .map (some pm)]) E6), (pm, mOb encS vI mm)]) (X := Z) (R := []) hS)) ?_
     rintro _ Y67 w ⟨rfl, hE1⟩ hS1
     have hS : St w0 G ([(b42, .cells (#[.func (.func 78) #[] #[Ptr p33 0, Ptr q33 0], .func (.func 78) #[] #[Ptr p37 0, Ptr q37 0], .func (.func 78) #[] #[Ptr p40 0, Ptr q40 0], .func (.func 32) #[] #[Ptr b3 0]]) 95), (q40, .cells (#[I (12)]) 33), (p40, .cells (#[.bool ((!(decide (m.ad ≠ []))))]) 4), (q37, .cells (#[I (2)]) 33), (p37, .cells (#[.bool ((decide (((n : Nat) : Int) > 1200)))]) 4), (q33, .cells (#[I (7)]) 33), (p33, .cells (#[.bool (m.cz)]) 4), (b3, .cells (#[Ptr s 0]) 25), (s, .cells (#[Ptr pp 0, I (((m.dir : Nat) : Int)), Ptr t 0, Ptr pc 0, Ptr pf 0, Ptr pe 0, U16 (m.rl), I (((m.rc : Nat) : Int)), U32 (m.re), U64 (m.fs), .bool (m.cz)]) E1), (pf, .cells (#[I (((m.ac : Nat) : Int)), I (((m.rf : Nat) : Int)), U64 (m.ls)]) E2), (pc, .cells (#[U64 (m.nx + 1), U64 (m.gv + 1), .bool (false)]) E3), (t, .cells (tableC c m.key) E4), (c, .cells (cipherC m.key) E5), (pp, .cells (#[Str m.ad, .bool (m.fx), I (((m.mv : Nat) : Int)), .map (some pm)]) E6), (pm, mOb encS vI mm)] ++ (Y67 ++ [])) w := St.callX (A := [(b42, .cells (#[.func (.func 78) #[] #[Ptr p33 0, Ptr q33 0], .func (.func 78) #[] #[Ptr p37 0, Ptr q37 0], .func (.func 78) #[] #[Ptr p40 0, Ptr q40 0], .func (.func 32) #[] #[Ptr b3 0]]) 95), (q40, .cells (#[I (12)]) 33), (p40, .cells (#[.bool ((!(decide (m.ad ≠ []))))]) 4), (q37, .cells (#[I (2)]) 33), (p37, .cells (#[.bool ((decide (((n : Nat) : Int) > 1200)))]) 4), (q33, .cells (#[I (7)]) 33), (p33, .cells (#[.bool (m.cz)]) 4), (b3, .cells (#[Ptr s 0]) 25), (s, .cells (#[Ptr pp 0, I (((m.dir : Nat) : Int)), Ptr t 0, Ptr pc 0, Ptr pf 0, Ptr pe 0, U16 (m.rl), I (((m.rc : Nat) : Int)), U32 (m.re), U64 (m.fs), .bool (m.cz)]) E1), (pf, .cells (#[I (((m.ac : Nat) : Int)), I (((m.rf : Nat) : Int)), U64 (m.ls)]) E2), (pc, .cells (#[U64 (m.nx + 1), U64 (m.gv + 1), .bool (false)]) E3), (t, .cells (tableC c m.key) E4), (c, .cells (cipherC m.key) E5), (pp, .cells (#[Str m.ad, .bool (m.fx), I (((m.mv : Nat) : Int)), .map (some pm)]) E6), (pm, mOb encS vI mm)]) (X := Z) (R := []) hS hS1
     refine lx (hS.sl 9 384) fun jj =>dx 14 O (by kernel_rfl) (fun w hS =>bd (cs := #[I (((m.dir : Nat) : Int)), U64 (m.nx), U16 (ofT x), U16 (replyV m.kp x), .slice a n cap]) O O O (by kernel_rfl) rr) jj ?_
     refine dl 15 O (by kernel_rfl)<|ala zr100 hS O O fun b15 w hb15 hS =>lx (hS.sl 10 768) fun jj =>?_
     refine dl 16 O (by kernel_rfl)<|sa 0 ag100 hS O O O (by kernel_rfl) O O O fun w hS =>ly O<|de (by kernel_rfl) ?_
     exact mmq ⟨Y67, b15, hE1, rfl, hS⟩ ⟨rfl, rfl, rfl, rfl, rfl, rfl, trivial⟩
    ·refine ala zr100 hS O O fun b15 w hb15 hS =>lx (hS.sl 10 768) fun jj =>?_
     refine dl 12 O (by kernel_rfl)<|cm cf38 O O O O O (sp_EchoReply pe m.kp x Z _ hE (St.memT (A := [(b15, .cells (#[I (0), U64 (0), U16 (0), U16 (0), (.slice none 0 0)]) 100), (b42, .cells (#[.func (.func 78) #[] #[Ptr p33 0, Ptr q33 0], .func (.func 78) #[] #[Ptr p37 0, Ptr q37 0], .func (.func 78) #[] #[Ptr p40 0, Ptr q40 0], .func (.func 32) #[] #[Ptr b3 0]]) 95), (q40, .cells (#[I (12)]) 33), (p40, .cells (#[.bool ((!(decide (m.ad ≠ []))))]) 4), (q37, .cells (#[I (2)]) 33), (p37, .cells (#[.bool ((decide (((n : Nat) : Int) > 1200)))]) 4), (q33, .cells (#[I (7)]) 33), (p33, .cells (#[.bool (m.cz)]) 4), (b3, .cells (#[Ptr s 0]) 25), (s, .cells (#[Ptr pp 0, I (((m.dir : Nat) : Int)), Ptr t 0, Ptr pc 0, Ptr pf 0, Ptr pe 0, U16 (m.rl), I (((m.rc : Nat) : Int)), U32 (m.re), U64 (m.fs), .bool (m.cz)]) E1), (pf, .cells (#[I (((m.ac : Nat) : Int)), I (((m.rf : Nat) : Int)), U64 (m.ls)]) E2), (pc, .cells (#[U64 (m.nx + 1), U64 (m.gv + 1), .bool (false)]) E3), (t, .cells (tableC c m.key) E4), (c, .cells (cipherC m.key) E5), (pp, .cells (#[Str m.ad, .bool (m.fx), I (((m.mv : Nat) : Int)), .map (some pm)]) E6), (pm, mOb encS vI mm)]) (X := Z) (R := []) hS) (St.nodupT (A := [(b15, .cells (#[I (0), U64 (0), U16 (0), U16 (0), (.slice none 0 0)]) 100), (b42, .cells (#[.func (.func 78) #[] #[Ptr p33 0, Ptr q33 0], .func (.func 78) #[] #[Ptr p37 0, Ptr q37 0], .func (.func 78) #[] #[Ptr p40 0, Ptr q40 0], .func (.func 32) #[] #[Ptr b3 0]]) 95), (q40, .cells (#[I (12)]) 33), (p40, .cells (#[.bool ((!(decide (m.ad ≠ []))))]) 4), (q37, .cells (#[I (2)]) 33), (p37, .cells (#[.bool ((decide (((n : Nat) : Int) > 1200)))]) 4), (q33, .cells (#[I (7)]) 33), (p33, .cells (#[.bool (m.cz)]) 4), (b3, .cells (#[Ptr s 0]) 25), (s, .cells (#[Ptr pp 0, I (((m.dir : Nat) : Int)), Ptr t 0, Ptr pc 0, Ptr pf 0, Ptr pe 0, U16 (m.rl), I (((m.rc : Nat) : Int)), U32 (m.re), U64 (m.fs), .bool (m.cz)]) E1), (pf, .cells (#[I (((m.ac : Nat) : Int)), I (((m.rf : Nat) : Int)), U64 (m.ls)]) E2), (pc, .cells (#[U64 (m.nx + 1), U64 (m.gv + 1), .bool (false)]) E3), (t, .cells (tableC c m.key) E4), (c, .cells (cipherC m.key) E5), (pp, .cells (#[Str m.ad, .bool (m.fx), I (((m.mv : Nat) : Int)), .map (some pm)]) E6), (pm, mOb encS vI mm)]) (X := Z) (R := []) hS)) ?_
     rintro _ Y67 w ⟨rfl, hE1⟩ hS1
     have hS : St w0 G ([(b15, .cells (#[I (0), U64 (0), U16 (0), U16 (0), (.slice none 0 0)]) 100), (b42, .cells (#[.func (.func 78) #[] #[Ptr p33 0, Ptr q33 0], .func (.func 78) #[] #[Ptr p37 0, Ptr q37 0], .func (.func 78) #[] #[Ptr p40 0, Ptr q40 0], .func (.func 32) #[] #[Ptr b3 0]]) 95), (q40, .cells (#[I (12)]) 33), (p40, .cells (#[.bool ((!(decide (m.ad ≠ []))))]) 4), (q37, .cells (#[I (2)]) 33), (p37, .cells (#[.bool ((decide (((n : Nat) : Int) > 1200)))]) 4), (q33, .cells (#[I (7)]) 33), (p33, .cells (#[.bool (m.cz)]) 4), (b3, .cells (#[Ptr s 0]) 25), (s, .cells (#[Ptr pp 0, I (((m.dir : Nat) : Int)), Ptr t 0, Ptr pc 0, Ptr pf 0, Ptr pe 0, U16 (m.rl), I (((m.rc : Nat) : Int)), U32 (m.re), U64 (m.fs), .bool (m.cz)]) E1), (pf, .cells (#[I (((m.ac : Nat) : Int)), I (((m.rf : Nat) : Int)), U64 (m.ls)]) E2), (pc, .cells (#[U64 (m.nx + 1), U64 (m.gv + 1), .bool (false)]) E3), (t, .cells (tableC c m.key) E4), (c, .cells (cipherC m.key) E5), (pp, .cells (#[Str m.ad, .bool (m.fx), I (((m.mv : Nat) : Int)), .map (some pm)]) E6), (pm, mOb encS vI mm)] ++ (Y67 ++ [])) w := St.callX (A := [(b15, .cells (#[I (0), U64 (0), U16 (0), U16 (0), (.slice none 0 0)]) 100), (b42, .cells (#[.func (.func 78) #[] #[Ptr p33 0, Ptr q33 0], .func (.func 78) #[] #[Ptr p37 0, Ptr q37 0], .func (.func 78) #[] #[Ptr p40 0, Ptr q40 0], .func (.func 32) #[] #[Ptr b3 0]]) 95), (q40, .cells (#[I (12)]) 33), (p40, .cells (#[.bool ((!(decide (m.ad ≠ []))))]) 4), (q37, .cells (#[I (2)]) 33), (p37, .cells (#[.bool ((decide (((n : Nat) : Int) > 1200)))]) 4), (q33, .cells (#[I (7)]) 33), (p33, .cells (#[.bool (m.cz)]) 4), (b3, .cells (#[Ptr s 0]) 25), (s, .cells (#[Ptr pp 0, I (((m.dir : Nat) : Int)), Ptr t 0, Ptr pc 0, Ptr pf 0, Ptr pe 0, U16 (m.rl), I (((m.rc : Nat) : Int)), U32 (m.re), U64 (m.fs), .bool (m.cz)]) E1), (pf, .cells (#[I (((m.ac : Nat) : Int)), I (((m.rf : Nat) : Int)), U64 (m.ls)]) E2), (pc, .cells (#[U64 (m.nx + 1), U64 (m.gv + 1), .bool (false)]) E3), (t, .cells (tableC c m.key) E4), (c, .cells (cipherC m.key) E5), (pp, .cells (#[Str m.ad, .bool (m.fx), I (((m.mv : Nat) : Int)), .map (some pm)]) E6), (pm, mOb encS vI mm)]) (X := Z) (R := []) hS hS1
     refine lx (hS.sl 10 768) fun jj =>dx 14 O (by kernel_rfl) (fun w hS =>bd (cs := #[I (((m.dir : Nat) : Int)), U64 (m.nx), U16 (ofT x), U16 (replyV m.kp x), .slice a n cap]) O O O (by kernel_rfl) rr) jj ?_
     refine dl 16 O (by kernel_rfl)<|sa 0 ag100 hS O O O (by kernel_rfl) O O O fun w hS =>ly O<|de (by kernel_rfl) ?_
     exact mmq ⟨Y67, b15, hE1, rfl, hS⟩ ⟨rfl, rfl, rfl, rfl, rfl, rfl, trivial⟩
   ·refine ala zr100 hS O O fun b15 w hb15 hS =>lx (hS.sl 10 768) fun jj =>?_
    refine dl 6 O (by kernel_rfl)<|cv cf37 hS O O O O O (sp_stamp_Of x _) fun w hS =>lx (hS.sl 10 768) fun jj =>?_
    refine dl 12 O (by kernel_rfl)<|cm cf38 O O O O O (sp_EchoReply pe m.kp x Z _ hE (St.memT (A := [(b15, .cells (#[I (0), U64 (0), U16 (0), U16 (0), (.slice none 0 0)]) 100), (b42, .cells (#[.func (.func 78) #[] #[Ptr p33 0, Ptr q33 0], .func (.func 78) #[] #[Ptr p37 0, Ptr q37 0], .func (.func 78) #[] #[Ptr p40 0, Ptr q40 0], .func (.func 32) #[] #[Ptr b3 0]]) 95), (q40, .cells (#[I (12)]) 33), (p40, .cells (#[.bool ((!(decide (m.ad ≠ []))))]) 4), (q37, .cells (#[I (2)]) 33), (p37, .cells (#[.bool ((decide (((n : Nat) : Int) > 1200)))]) 4), (q33, .cells (#[I (7)]) 33), (p33, .cells (#[.bool (m.cz)]) 4), (b3, .cells (#[Ptr s 0]) 25), (s, .cells (#[Ptr pp 0, I (((m.dir : Nat) : Int)), Ptr t 0, Ptr pc 0, Ptr pf 0, Ptr pe 0, U16 (m.rl), I (((m.rc : Nat) : Int)), U32 (m.re), U64 (m.fs), .bool (m.cz)]) E1), (pf, .cells (#[I (((m.ac : Nat) : Int)), I (((m.rf : Nat) : Int)), U64 (m.ls)]) E2), (pc, .cells (#[U64 (m.nx + 1), U64 (m.gv + 1), .bool (false)]) E3), (t, .cells (tableC c m.key) E4), (c, .cells (cipherC m.key) E5), (pp, .cells (#[Str m.ad, .bool (m.fx), I (((m.mv : Nat) : Int)), .map (some pm)]) E6), (pm, mOb encS vI mm)]) (X := Z) (R := []) hS) (St.nodupT (A := [(b15, .cells (#[I (0), U64 (0), U16 (0), U16 (0), (.slice none 0 0)]) 100), (b42, .cells (#[.func (.func 78) #[] #[Ptr p33 0, Ptr q33 0], .func (.func 78) #[] #[Ptr p37 0, Ptr q37 0], .func (.func 78) #[] #[Ptr p40 0, Ptr q40 0], .func (.func 32) #[] #[Ptr b3 0]]) 95), (q40, .cells (#[I (12)]) 33), (p40, .cells (#[.bool ((!(decide (m.ad ≠ []))))]) 4), (q37, .cells (#[I (2)]) 33), (p37, .cells (#[.bool ((decide (((n : Nat) : Int) > 1200)))]) 4), (q33, .cells (#[I (7)]) 33), (p33, .cells (#[.bool (m.cz)]) 4), (b3, .cells (#[Ptr s 0]) 25), (s, .cells (#[Ptr pp 0, I (((m.dir : Nat) : Int)), Ptr t 0, Ptr pc 0, Ptr pf 0, Ptr pe 0, U16 (m.rl), I (((m.rc : Nat) : Int)), U32 (m.re), U64 (m.fs), .bool (m.cz)]) E1), (pf, .cells (#[I (((m.ac : Nat) : Int)), I (((m.rf : Nat) : Int)), U64 (m.ls)]) E2), (pc, .cells (#[U64 (m.nx + 1), U64 (m.gv + 1), .bool (false)]) E3), (t, .cells (tableC c m.key) E4), (c, .cells (cipherC m.key) E5), (pp, .cells (#[Str m.ad, .bool (m.fx), I (((m.mv : Nat) : Int)), .map (some pm)]) E6), (pm, mOb encS vI mm)]) (X := Z) (R := []) hS)) ?_
    rintro _ Y67 w ⟨rfl, hE1⟩ hS1
    have hS : St w0 G ([(b15, .cells (#[I (0), U64 (0), U16 (0), U16 (0), (.slice none 0 0)]) 100), (b42, .cells (#[.func (.func 78) #[] #[Ptr p33 0, Ptr q33 0], .func (.func 78) #[] #[Ptr p37 0, Ptr q37 0], .func (.func 78) #[] #[Ptr p40 0, Ptr q40 0], .func (.func 32) #[] #[Ptr b3 0]]) 95), (q40, .cells (#[I (12)]) 33), (p40, .cells (#[.bool ((!(decide (m.ad ≠ []))))]) 4), (q37, .cells (#[I (2)]) 33), (p37, .cells (#[.bool ((decide (((n : Nat) : Int) > 1200)))]) 4), (q33, .cells (#[I (7)]) 33), (p33, .cells (#[.bool (m.cz)]) 4), (b3, .cells (#[Ptr s 0]) 25), (s, .cells (#[Ptr pp 0, I (((m.dir : Nat) : Int)), Ptr t 0, Ptr pc 0, Ptr pf 0, Ptr pe 0, U16 (m.rl), I (((m.rc : Nat) : Int)), U32 (m.re), U64 (m.fs), .bool (m.cz)]) E1), (pf, .cells (#[I (((m.ac : Nat) : Int)), I (((m.rf : Nat) : Int)), U64 (m.ls)]) E2), (pc, .cells (#[U64 (m.nx + 1), U64 (m.gv + 1), .bool (false)]) E3), (t, .cells (tableC c m.key) E4), (c, .cells (cipherC m.key) E5), (pp, .cells (#[Str m.ad, .bool (m.fx), I (((m.mv : Nat) : Int)), .map (some pm)]) E6), (pm, mOb encS vI mm)] ++ (Y67 ++ [])) w := St.callX (A := [(b15, .cells (#[I (0), U64 (0), U16 (0), U16 (0), (.slice none 0 0)]) 100), (b42, .cells (#[.func (.func 78) #[] #[Ptr p33 0, Ptr q33 0], .func (.func 78) #[] #[Ptr p37 0, Ptr q37 0], .func (.func 78) #[] #[Ptr p40 0, Ptr q40 0], .func (.func 32) #[] #[Ptr b3 0]]) 95), (q40, .cells (#[I (12)]) 33), (p40, .cells (#[.bool ((!(decide (m.ad ≠ []))))]) 4), (q37, .cells (#[I (2)]) 33), (p37, .cells (#[.bool ((decide (((n : Nat) : Int) > 1200)))]) 4), (q33, .cells (#[I (7)]) 33), (p33, .cells (#[.bool (m.cz)]) 4), (b3, .cells (#[Ptr s 0]) 25), (s, .cells (#[Ptr pp 0, I (((m.dir : Nat) : Int)), Ptr t 0, Ptr pc 0, Ptr pf 0, Ptr pe 0, U16 (m.rl), I (((m.rc : Nat) : Int)), U32 (m.re), U64 (m.fs), .bool (m.cz)]) E1), (pf, .cells (#[I (((m.ac : Nat) : Int)), I (((m.rf : Nat) : Int)), U64 (m.ls)]) E2), (pc, .cells (#[U64 (m.nx + 1), U64 (m.gv + 1), .bool (false)]) E3), (t, .cells (tableC c m.key) E4), (c, .cells (cipherC m.key) E5), (pp, .cells (#[Str m.ad, .bool (m.fx), I (((m.mv : Nat) : Int)), .map (some pm)]) E6), (pm, mOb encS vI mm)]) (X := Z) (R := []) hS hS1
    refine lx (hS.sl 10 768) fun jj =>dx 14 O (by kernel_rfl) (fun w hS =>bd (cs := #[I (((m.dir : Nat) : Int)), U64 (m.nx), U16 (ofT x), U16 (replyV m.kp x), .slice a n cap]) O O O (by kernel_rfl) rr) jj ?_
    refine dl 16 O (by kernel_rfl)<|sa 0 ag100 hS O O O (by kernel_rfl) O O O fun w hS =>ly O<|de (by kernel_rfl) ?_
    exact mmq ⟨Y67, b15, hE1, rfl, hS⟩ ⟨rfl, rfl, rfl, rfl, rfl, rfl, trivial⟩
  ·rintro _ w ⟨Y67, b15, hE1, rfl, hS⟩
   refine rd mo 10 (fun w =>St w0 G [(b15, .cells (#[I (((m.dir : Nat) : Int)), U64 (m.nx), U16 (ofT x), U16 (replyV m.kp x), .slice a n cap]) 100), (b3, .cells (#[Ptr s 0]) 25), (s, .cells (#[Ptr pp 0, I (((m.dir : Nat) : Int)), Ptr t 0, Ptr pc 0, Ptr pf 0, Ptr pe 0, U16 (m.rl), I (((m.rc : Nat) : Int)), U32 (m.re), U64 (m.fs), .bool (m.cz)]) E1)] w)<|have hS := hS.drew; jx (hS.sl 10 769) fun jj =>dx 0 O (by kernel_rfl) (fun w hS =>lo 1 sc25 hS O O O O O rr) jj<|dx 1 O (by kernel_rfl) (fun w hS =>nilp O O O rr) jj<|dx 2 O (by kernel_rfl) (fun w hS =>fan 2 2 un90 O sz77 (by decide) O O O O (by omega) rr) jj<|dx 3 O (by kernel_rfl) (fun w hS =>lo 2 sc77 hS O O O O O rr) jj<|dx 4 O (by kernel_rfl) (fun w hS =>la 0 ag100 hS O O O O O rr) jj ?_
   refine dl 5 O (by kernel_rfl)<|cs cf39 hS O O O O O (sp_packet_Encode t c m.key (((m.dir : Nat) : Int)) m.nx ((ofT x)) ((replyV m.kp x)) a n cap bs _ (⟨⟨_, hS.get 12 O⟩, _, hS.get 13 O⟩) (by first | rfl | omega | (simp; omega) | (simp; done)) (by omega) (hc _ _ hS) (by omega) (hG _ _ hS)) ?_
   rintro _ X76 w ⟨a76, n76, c76, rfl, hO76⟩ hS
   have hS := St.tailin (X := X76) hS [(b15, .cells (#[I (((m.dir : Nat) : Int)), U64 (m.nx), U16 (ofT x), U16 (replyV m.kp x), .slice a n cap]) 100), (b42, .cells (#[.func (.func 78) #[] #[Ptr p33 0, Ptr q33 0], .func (.func 78) #[] #[Ptr p37 0, Ptr q37 0], .func (.func 78) #[] #[Ptr p40 0, Ptr q40 0], .func (.func 32) #[] #[Ptr b3 0]]) 95), (q40, .cells (#[I (12)]) 33), (p40, .cells (#[.bool ((!(decide (m.ad ≠ []))))]) 4), (q37, .cells (#[I (2)]) 33), (p37, .cells (#[.bool ((decide (((n : Nat) : Int) > 1200)))]) 4), (q33, .cells (#[I (7)]) 33), (p33, .cells (#[.bool (m.cz)]) 4), (b3, .cells (#[Ptr s 0]) 25), (s, .cells (#[Ptr pp 0, I (((m.dir : Nat) : Int)), Ptr t 0, Ptr pc 0, Ptr pf 0, Ptr pe 0, U16 (m.rl), I (((m.rc : Nat) : Int)), U32 (m.re), U64 (m.fs), .bool (m.cz)]) E1), (pf, .cells (#[I (((m.ac : Nat) : Int)), I (((m.rf : Nat) : Int)), U64 (m.ls)]) E2), (pc, .cells (#[U64 (m.nx + 1), U64 (m.gv + 1), .bool (false)]) E3), (t, .cells (tableC c m.key) E4), (c, .cells (cipherC m.key) E5), (pp, .cells (#[Str m.ad, .bool (m.fx), I (((m.mv : Nat) : Int)), .map (some pm)]) E6), (pm, mOb encS vI mm)] (Y67 ++ []) rfl
   refine lx (hS.sl 10 769) fun jj =>dx 6 O (by kernel_rfl) (fun w hS =>mv O O O rr) jj<|dx 7 O (by kernel_rfl) (fun w hS =>ext O O O O rr) jj<|dx 8 O (by kernel_rfl) (fun w hS =>ext O O O O rr) jj<|dx 9 O (by kernel_rfl) (fun w hS =>asg O O O rr) jj ?_
   refine dl 10 O (by kernel_rfl)<|asg O O O<|ly O<|de (by kernel_rfl)<|wt<|rg<|mv O O O<|mv O O O<|mv O O O<|asg O O O<|asg O O O<|asg O O O ?_
   refine wt<|wc_ret<|fin3 (v := .slice a76 n76 c76) (u := (Str m.ad)) (x := (errV 33 (chk ((m.dir : Nat) : Int) m.nx n))) O O O O ?_
   have eM : sndM m n = { m with nx := m.nx + 1, gv := m.gv + 1, kp := none } := if_pos hE2
   have eA : sndA m n = m.ad := if_pos hE2
   have eB : sndB m bs x = encP m.key (m.dir : Int) m.nx (ofT x) (replyV m.kp x) bs := by rw [sndB, hn, if_pos hE2]
   have hck : chk ((m.dir : Nat) : Int) m.nx n = 0 := chk_ok hd1 h4 hn12
   have hl := hO76.len8
   have hl2 := encP_le (key := m.key) (d := (m.dir : Int)) (s := m.nx) (t := ofT x) (e := replyV m.kp x) (bs := bs) (by omega)
   exact ⟨_, _, rfl, ⟨_, _, _, [(s, .cells (#[Ptr pp 0, I (((m.dir : Nat) : Int)), Ptr t 0, Ptr pc 0, Ptr pf 0, Ptr pe 0, U16 (m.rl), I (((m.rc : Nat) : Int)), U32 (m.re), U64 (m.fs), .bool (m.cz)]) E1), (pf, .cells (#[I (((m.ac : Nat) : Int)), I (((m.rf : Nat) : Int)), U64 (m.ls)]) E2), (pc, .cells (#[U64 (m.nx + 1), U64 (m.gv + 1), .bool (false)]) E3), (t, .cells (tableC c m.key) E4), (c, .cells (cipherC m.key) E5), (pp, .cells (#[Str m.ad, .bool (m.fx), I (((m.mv : Nat) : Int)), .map (some pm)]) E6), (pm, mOb encS vI mm)] ++ Y67, X76, by rw [eA, hck, hE2], by rw [eM]; exact ⟨pp, pm, pc, pf, pe, t, c, _, _, _, _, _, _, _, _, hd1, hE1, rfl⟩, by rw [eB]; exact Gives.own hO76 (by omega), rfl⟩, St.pk (U := [(b15, .cells (#[I (((m.dir : Nat) : Int)), U64 (m.nx), U16 (ofT x), U16 (replyV m.kp x), .slice a n cap]) 100), (b42, .cells (#[.func (.func 78) #[] #[Ptr p33 0, Ptr q33 0], .func (.func 78) #[] #[Ptr p37 0, Ptr q37 0], .func (.func 78) #[] #[Ptr p40 0, Ptr q40 0], .func (.func 32) #[] #[Ptr b3 0]]) 95), (q40, .cells (#[I (12)]) 33), (p40, .cells (#[.bool ((!(decide (m.ad ≠ []))))]) 4), (q37, .cells (#[I (2)]) 33), (p37, .cells (#[.bool ((decide (((n : Nat) : Int) > 1200)))]) 4), (q33, .cells (#[I (7)]) 33), (p33, .cells (#[.bool (m.cz)]) 4), (b3, .cells (#[Ptr s 0]) 25)]) (B := [(s, .cells (#[Ptr pp 0, I (((m.dir : Nat) : Int)), Ptr t 0, Ptr pc 0, Ptr pf 0, Ptr pe 0, U16 (m.rl), I (((m.rc : Nat) : Int)), U32 (m.re), U64 (m.fs), .bool (m.cz)]) E1), (pf, .cells (#[I (((m.ac : Nat) : Int)), I (((m.rf : Nat) : Int)), U64 (m.ls)]) E2), (pc, .cells (#[U64 (m.nx + 1), U64 (m.gv + 1), .bool (false)]) E3), (t, .cells (tableC c m.key) E4), (c, .cells (cipherC m.key) E5), (pp, .cells (#[Str m.ad, .bool (m.fx), I (((m.mv : Nat) : Int)), .map (some pm)]) E6), (pm, mOb encS vI mm)]) (Y := X76) (Z := Y67) (R := []) hS⟩
theorem sp_SndG (s : Nat) (m : SS) (X : List (Nat × Obj)) (a : Option Addr) (n cap : Nat) (bs : List UInt8) (x : UInt64) (w0 : World) (hO : SesO s m X) (hX : ∀ p ∈ X, w0.heap[p.1]? = some p.2) (hnd : (X.map Prod.fst).Nodup) (hn : bs.length = n) (hN : n ≤ 1000000) (hcap : n ≤ cap) (hc : CelX (X.map Prod.fst) w0 a (c8 bs)) (hG : GlX 1 (X.map Prod.fst) w0) : Calls Tryz.prog 10 #[Ptr s 0, .slice a n cap, U64 x] w0 (RetM w0 (X.map Prod.fst) (fun v L' => ∃ a' n' c' X' Y m' e' ad' b', v = .tuple #[.slice a' n' c', Str ad', errV 33 e'] ∧ SesO s m' X' ∧ m' = sndM m n ∧ e' = sndE m n ∧ ad' = sndA m n ∧ b' = sndB m bs x ∧ b'.length = n' ∧ n' ≤ 1000000 ∧ n' ≤ c' ∧ Rd a' b' Y ∧ L' = X' ++ Y)) :=
  (sp_session_Session_Send s m X a n cap bs x w0 hO hX hnd hn hN hcap hc hG).mono fun e w' ⟨v, L, he, ⟨a', n', c', X', Y, hv, hO2, hg, hL⟩, hS⟩ => ⟨v, L, he, ⟨a', n', c', X', Y, _, _, _, _, hv, hO2, rfl, rfl, rfl, rfl, hg.1, hg.2.1, hg.2.2.1, hg.2.2.2, hL⟩, hS⟩
theorem sp_bits_Number (a : Option Addr) (n cap : Nat) (bs : List UInt8) (w0 : World) (hn : bs.length = n) (hN : n ≤ 1000000) (hc : Cel w0 a (c8 bs)) (hcap : n ≤ cap) : Calls Tryz.prog 92 #[.slice a n cap] w0 (Ret w0 (U64 (number bs))) := by
 refine enter (args := [.slice a n cap]) Tryz.func92 O O<|startw fun w hS =>rg<|asg O O O<|wt<|rg<|asg O O O<|wt<|wc_seq<|rg<|mv O O O<|mv O O O ?_
 refine lens un30 O O O<|subi (by omega) (by omega) O O O O<|maxin (n - 8) (by omega) O O O O<|s_l (n - 8) un30 sz5 O O O O (by omega) (by omega)<|lens un30 O O O<|mv O O O<|wt<|wc_block ?_
 refine wc_loop (σ := Nat) (fun k =>[(2, U64 0), (3, U64 (num ((bs.drop (n - 8)).take k))), (11, .slice (sla a (n - 8) cap) (n - (n - 8)) (cap - (n - 8))), (12, I (((n - (n - 8) : Nat) : Int))), (13, I ((k : Int)))])
  (fun k w => (k ≤ n - (n - 8)) ∧ St w0 [] [] w) (fun k => n - (n - 8) - k) 0 ⟨rfl, rfl, rfl, rfl, rfl, trivial⟩ ⟨by omega, hS⟩ ?_
 rintro k w ⟨hk, hS⟩
 refine rg<|lss O O O O<|wt<|wc_seq ?_
 refine wc_if O (fun hc1 =>?_) (fun hc1 =>?_)
 ·try simp only [SB] at hc1
  refine wc_skip<|wt<|wc_seq<|wc_block<|rg<|slx k un30 sz5 O O O O (by omega) (by omega) (((hc.st hS).drop8 (lo := n - 8) (cap := cap) (by first | omega | (simp; omega) | simp)).some8 (j := k) (by first | omega | (simp; done) | (simp; omega)))<|ldx sc5 O O O ((hc.st hS).drop8 (lo := n - 8) (cap := cap) (by first | omega | (simp; omega) | simp)) (by first | omega | (simp; done) | (simp; omega))<|asg O O O<|wt<|wc_region<|mv O O O<|shln64 8 (by omega) O O O O ?_
  refine mv O O O<|cvu64 un24 ⟨_, un5⟩ O O O<|or64 O O O O<|asg O O O<|q_block_norm<|wt<|wc_region<|addi (by omega) (by omega) O O O O<|mv O O O ?_
  refine again_q (k + 1) ⟨O, lkU64 O (num_take _ _ (by rw [List.length_drop]; omega)), O, O, lkI O (by first | omega | rfl), trivial⟩ ⟨by omega, hS⟩ (by omega)
 ·try simp only [SB] at hc1
  have hk4 : k = (bs.drop (n - 8)).length := by rw [List.length_drop]; omega
  refine wc_exit<|q_then_exit<|q_then_exit<|q_block_hit<|wt<|rg<|mv O O O<|asg O O O<|wt<|wc_ret<|fin1 (v := U64 (num ((bs.drop (n - 8)).take k))) O O ?_
  refine ⟨?_, hS.drop⟩
  rw [hk4, List.take_length, ← hn]; rfl
theorem sp_nonce_ParseHead (a : Option Addr) (n cap : Nat) (bs : List UInt8) (w0 : World) (hn : bs.length = n) (hN : n ≤ 1000000) (hc : Cel w0 a (c8 bs)) (hcap : n ≤ cap) (h8 : 8 ≤ n) : Calls Tryz.prog 91 #[.slice a n cap] w0 (Ret w0 (.tuple #[I ((headD bs : Nat) : Int), U64 (headS bs), .bool true])) := by
 refine enter (args := [.slice a n cap]) Tryz.func91 O O<|startw fun w hS =>?_
 have h63 := shr63_lt (number (bs.take 8))
 refine rg<|asg O O O<|asg O O O<|asg O O O<|wt<|wc_seq<|rg<|mv O O O<|lens un30 O O O<|lss O O O O<|wt ?_
 refine wc_if O (fun hc1 =>?_) (fun hc1 =>?_)
 ·try simp only [SB] at hc1
  exfalso; omega
 ·try simp only [SB] at hc1
  refine wc_skip<|wt<|rg<|mv O O O<|s_h 8 un30 ⟨_, sz5⟩ O O O O (by omega) (by omega)<|cv cf92 hS O O O O O (sp_bits_Number a 8 cap (((bs).take 8)) _ (by first | rfl | omega | (simp; omega) | (simp; done)) (by omega) ((hc.st hS).take8 8) (by omega)) fun w hS =>asg O O O<|wt<|rg<|mv O O O<|shrn64 63 (by omega) O O O O<|cvi un3 ⟨_, un24⟩ (by omega) (by omega) O O O ?_
  refine mv O O O<|and64 (q := (9223372036854775807 : UInt64)) O O O O<|asg O O O<|asg O O O<|asg O O O<|wt<|wc_ret<|fin3 (v := I (((shr64 (number ((bs).take 8)) 63).toNat : Int))) (u := U64 ((number ((bs).take 8)) &&& 9223372036854775807)) (x := .bool true) O O O O ?_
  exact ⟨rfl, hS.drop⟩
theorem sp_packet_length (n : Nat) (n_ : Int) (w0 : World) (hn_ : n_ = (n : Int)) : Calls Tryz.prog 89 #[I n_] w0 (Ret w0 (errV 33 (lng n))) := by
 subst hn_
 refine enter (args := [I (n : Int)]) Tryz.func89 O O<|startw fun w hS =>rg<|asg O O O<|wt<|wc_seq<|wc_block<|rg<|mv O O O<|lss O O O O<|asg O O O<|wt ?_
 refine wc_if O (fun hc1 =>?_) (fun hc1 =>?_)
 ·try simp only [SB] at hc1
  refine rg<|mki cc33 O O O<|asg O O O<|wt<|wc_ret<|q_block_ret<|q_then_ret<|fin1 (v := (.iface 33 (I 1))) O O ?_
  refine ⟨?_, hS.drop⟩
  have hk : lng n = 1 := by simp only [lng]; (repeat' split) <;> omega
  rw [hk]; rfl
 ·try simp only [SB] at hc1
  refine rg<|mv O O O<|gtr O O O O<|asg O O O<|wt ?_
  refine wc_if O (fun hc2 =>?_) (fun hc2 =>?_)
  ·try simp only [SB] at hc2
   refine rg<|mki cc33 O O O<|asg O O O<|wt<|wc_ret<|q_block_ret<|q_then_ret<|fin1 (v := (.iface 33 (I 2))) O O ?_
   refine ⟨?_, hS.drop⟩
   have hk : lng n = 2 := by simp only [lng]; (repeat' split) <;> omega
   rw [hk]; rfl
  ·try simp only [SB] at hc2
   refine wc_skip<|q_block_norm<|wt<|rg<|asg O O O<|wt<|wc_ret<|fin1 (v := .nilIface) O O ?_
   refine ⟨?_, hS.drop⟩
   have hk : lng n = 0 := by simp only [lng]; (repeat' split) <;> omega
   rw [hk]; rfl
theorem sp_bits_Xor (a : Option Addr) (n cap : Nat) (bs : List UInt8) (a2 : Option Addr) (n2 cap2 : Nat) (bs2 : List UInt8) (w0 : World) (hn : bs.length = n) (hN : n ≤ 1000000) (hc : Cel w0 a (c8 bs)) (hn2 : bs2.length = n2) (hN2 : n2 ≤ 1000000) (hc2 : Cel w0 a2 (c8 bs2)) : Calls Tryz.prog 152 #[.slice a n cap, .slice a2 n2 cap2] w0 (RetS w0 (fun v L => ∃ b, v = .slice (some ⟨b, 0, none⟩) (min n n2) (min n n2) ∧ L = [(b, .cells (LB (xorb bs bs2)) 5)])) := by
 refine enter (args := [.slice a n cap, .slice a2 n2 cap2]) Tryz.func152 O O<|startw fun w hS =>rg<|asg O O O<|wt<|rg<|mv O O O<|lens un30 O O O<|mv O O O<|lens un30 O O O<|minin (min n n2) (by omega) O O O O<|mks (min n n2) sl30 hS O O O O (by omega) (by omega) (by omega) (by omega) (madeLB _) fun b12 w hb12 hS =>?_
 refine asg O O O<|wt<|wc_seq<|rg<|mv O O O<|lens un30 O O O<|mv O O O<|wt<|wc_block ?_
 refine wc_loop (σ := Nat) (fun k =>[(0, .slice a n cap), (1, .slice a2 n2 cap2), (4, (.slice none 0 0)), (5, .slice (some ⟨b12, 0, none⟩) (min n n2) (min n n2)), (14, I (((min n n2 : Nat) : Int))), (15, I ((k : Int)))])
  (fun k w => (k ≤ min n n2) ∧ St w0 [] [(b12, .cells (LB (flL (min n n2) (fun i => gl bs i ^^^ gl bs2 i) k)) 5)] w) (fun k => min n n2 - k) 0 ⟨rfl, rfl, rfl, rfl, rfl, rfl, trivial⟩ ⟨by omega, (by rw [← flL_0]; exact hS)⟩ ?_
 rintro k w ⟨hk, hS⟩
 refine rg<|lss O O O O<|wt<|wc_seq ?_
 refine wc_if O (fun hc1 =>?_) (fun hc1 =>?_)
 ·try simp only [SB] at hc1
  refine wc_skip<|wt<|wc_seq<|wc_block<|rg<|mv O O O<|asg O O O<|wt<|wc_draw mo 11 (fun w =>St w0 [] [(b12, .cells (LB (flL (min n n2) (fun i =>gl bs i ^^^ gl bs2 i) k)) 5)] w)<|have hS := hS.drew; jx hS fun jj =>dx 0 O (by kernel_rfl) (fun w hS =>mv O O O rr) jj<|dx 1 O (by kernel_rfl) (fun w hS =>mv O O O rr) jj ?_
  refine dx 2 O (by kernel_rfl) (fun w hS =>mv O O O rr) jj<|dx 3 O (by kernel_rfl) (fun w hS =>mv O O O rr) jj<|dx 4 O (by kernel_rfl) (fun w hS =>slx k un30 sz5 O O O O (by omega) (by omega) ((hc.st hS).some8 (j := k) (by first | omega | (simp; done) | (simp; omega))) rr) jj<|dx 5 O (by kernel_rfl) (fun w hS =>ldx sc5 O O O (hc.st hS) (by first | omega | (simp; done) | (simp; omega)) rr) jj<|dx 6 O (by kernel_rfl) (fun w hS =>mv O O O rr) jj<|dx 7 O (by kernel_rfl) (fun w hS =>mv O O O rr) jj<|dx 8 O (by kernel_rfl) (fun w hS =>slx k un30 sz5 O O O O (by omega) (by omega) ((hc2.st hS).some8 (j := k) (by first | omega | (simp; done) | (simp; omega))) rr) jj<|dx 9 O (by kernel_rfl) (fun w hS =>ldx sc5 O O O (hc2.st hS) (by first | omega | (simp; done) | (simp; omega)) rr) jj<|dx 10 O (by kernel_rfl) (fun w hS =>xor8 O O O O rr) jj ?_
  refine dl 11 O (by kernel_rfl)<|isn k un30 sz5 O O O O (by omega) (by omega)<|ly O ?_
  refine dl 12 O (by kernel_rfl)<|st (cs' := LB (flL (min n n2) (fun i =>gl bs i ^^^ gl bs2 i) (k + 1))) 0 sz5 hS O O O O O O (by rw [LB_size, flL_len]; omega) (by rw [LB_set]; exact congrArg LB (flL_succ _ _ k)) fun w hS =>ly O<|de (by kernel_rfl)<|q_block_norm<|wt<|wc_region<|addi (by omega) (by omega) O O O O<|mv O O O ?_
  refine again_q (k + 1) ⟨O, O, O, O, O, lkI O (by first | omega | rfl), trivial⟩ ⟨by omega, hS⟩ (by omega)
 ·try simp only [SB] at hc1
  refine wc_exit<|q_then_exit<|q_then_exit<|q_block_hit<|wt<|rg<|mv O O O<|asg O O O<|wt<|wc_ret<|fin1 (v := .slice (some ⟨b12, 0, none⟩) (min n n2) (min n n2)) O O ?_
  have hk4 : k = min n n2 := by omega
  refine ⟨_, _, O, ⟨b12, O, O⟩, ?_⟩
  rw [hk4, flL_n] at hS
  simp only [xorb, hn, hn2]; exact hS.sublist (by simp)
theorem sp_bits_Equal (a : Option Addr) (n cap : Nat) (bs : List UInt8) (a2 : Option Addr) (n2 cap2 : Nat) (bs2 : List UInt8) (w0 : World) (hn : bs.length = n) (hN : n ≤ 1000000) (hc : Cel w0 a (c8 bs)) (hn2 : bs2.length = n2) (hN2 : n2 ≤ 1000000) (hc2 : Cel w0 a2 (c8 bs2)) : Calls Tryz.prog 122 #[.slice a n cap, .slice a2 n2 cap2] w0 (Ret w0 (.bool (eqB bs bs2))) := by
 refine enter (args := [.slice a n cap, .slice a2 n2 cap2]) Tryz.func122 O O<|startw fun w hS =>?_
 have hx := xorb_len bs bs2
 refine rg<|asg O O O<|wt<|rg<|asg O O O<|wt<|wc_seq<|rg<|mv O O O<|mv O O O<|cs cf152 hS O O O O O (sp_bits_Xor a n cap bs a2 n2 cap2 bs2 _ (by first | rfl | omega | (simp; omega) | (simp; done)) (by omega) (hc.st hS) (by first | rfl | omega | (simp; omega) | (simp; done)) (by omega) (hc2.st hS)) ?_
 rintro _ _ w ⟨q10, rfl, rfl⟩ hS
 refine lens un30 O O O<|mv O O O<|wt<|wc_block ?_
 refine wc_loop (σ := Nat) (fun k =>[(0, .slice a n cap), (1, .slice a2 n2 cap2), (4, .bool false), (5, U8 (orl ((xorb bs bs2).take k))), (10, .slice (some ⟨q10, 0, none⟩) (min n n2) (min n n2)), (11, I (((min n n2 : Nat) : Int))), (12, I ((k : Int)))])
  (fun k w => (k ≤ min n n2) ∧ St w0 [] [(q10, .cells (LB (xorb bs bs2)) 5)] w) (fun k => min n n2 - k) 0 ⟨rfl, rfl, rfl, rfl, rfl, rfl, rfl, trivial⟩ ⟨by omega, hS⟩ ?_
 rintro k w ⟨hk, hS⟩
 refine rg<|lss O O O O<|wt<|wc_seq ?_
 refine wc_if O (fun hc1 =>?_) (fun hc1 =>?_)
 ·try simp only [SB] at hc1
  refine wc_skip<|wt<|wc_seq<|wc_block<|rg<|isn k un30 sz5 O O O O (by omega) (by omega)<|lo 0 sc5 hS O O O O (LB_get _ k (by first | omega | (simp; done) | (simp; omega)))<|asg O O O<|wt<|wc_region<|mv O O O<|mv O O O ?_
  refine or8 O O O O<|asg O O O<|q_block_norm<|wt<|wc_region<|addi (by omega) (by omega) O O O O<|mv O O O ?_
  refine again_q (k + 1) ⟨O, O, O, lkU8 O (orl_take _ _ (by omega)), O, O, lkI O (by first | omega | rfl), trivial⟩ ⟨by omega, hS⟩ (by omega)
 ·try simp only [SB] at hc1
  have hk4 : k = (xorb bs bs2).length := by omega
  have ho : orl ((xorb bs bs2).take k) = orl (xorb bs bs2) := by rw [hk4, List.take_length]
  refine wc_exit<|q_then_exit<|q_then_exit<|q_block_hit<|wt<|rg<|mv O O O<|eqi O O O O<|mv O O O ?_
  refine spl 22 O (fun hb1 =>?_) (fun hb1 =>?_)
  ·try simp only [SB] at hb1
   have hz : orl (xorb bs bs2) = 0 := by rw [← ho]; exact UInt8.toNat_inj.1 (by have := hb1; simp at this ⊢; omega)
   refine mv O O O<|lens un30 O O O<|mv O O O<|lens un30 O O O<|eqi O O O O<|pk_t O O O O<|asg O O O<|wt<|wc_ret<|fin1 (v := .bool ((((n : Nat) : Int) : Int) == ((n2 : Nat) : Int))) O O ?_
   refine ⟨?_, hS.drop⟩
   simp only [eqB]
   rw [if_pos hz, hn, hn2, beqn]
  ·try simp only [SB] at hb1
   have hz : ¬ orl (xorb bs bs2) = 0 := fun e => by rw [← ho] at e; rw [e] at hb1; exact hb1 rfl
   refine no O O<|no O O<|no O O<|no O O<|no O O<|pk_f O O O O<|asg O O O<|wt<|wc_ret<|fin1 (v := .bool false) O O ?_
   refine ⟨?_, hS.drop⟩
   simp only [eqB]
   rw [if_neg hz]
theorem sp_fast_Cipher_Decrypt (c E : Nat) (key : V8 16) (b : V8 16) (w0 : World) (hC : w0.heap[c]? = some (.cells (cipherC key) E)) : Calls Tryz.prog 151 #[Ptr c 0, .agg (BV b)] w0 (Ret w0 (.agg (BV (dec key b)))) := by
 refine enter (args := [Ptr c 0, .agg (BV b)]) Tryz.func151 O O<|startw fun w hS =>rg<|bxa hS O O O fun b3 w hb3 hS =>ala zr22 hS O O fun b4 w hb4 hS =>wt<|rg<|mv O O O<|cv cf105 hS O O O O O (sp_fast_Cipher_right c _ _ _ (hS.old hC List.not_mem_nil)) fun w hS =>asg O O O<|wt<|rd mo 9 (fun w =>St w0 [] [(b4, .cells (BV (Vector.replicate 16 0)) 22), (b3, .cells (BV b) 22)] w) ?_
 have hS := hS.drew
 refine jx hS fun jj =>dx 0 O (by kernel_rfl) (fun w hS =>la 1 ag22 hS O O O O (BV_size _) rr) jj<|dx 1 O (by kernel_rfl) (fun w hS =>mv O O O rr) jj<|dx 2 O (by kernel_rfl) (fun w hS =>nilp O O O rr) jj<|dx 3 O (by kernel_rfl) (fun w hS =>fan 45 45 un147 O sz145 (by decide) O O O O (by omega) rr) jj<|dx 4 O (by kernel_rfl) (fun w hS =>mv O O O rr) jj<|dx 5 O (by kernel_rfl) (fun w hS =>nilp O O O rr) jj<|dx 6 O (by kernel_rfl) (fun w hS =>fan 105 105 un147 O sz142 (by decide) O O O O (by omega) rr) jj<|dx 7 O (by kernel_rfl) (fun w hS =>fan 256 361 un142 O sz140 (by decide) O O O O (by omega) rr) jj ?_
 refine dl 8 O (by kernel_rfl)<|cv cf106 hS O O O O O (sp_fast_run b c 45 c 361 3 108 _ _ (cipherC key) (cipherC key) (bkK key 11) bckT back _ _ O (by omega) (hS.old hC List.not_mem_nil) (hS.old hC List.not_mem_nil) (ci_bk key) (ci_u key) cf108 (fun x w _ =>sp_sbox_Back x w)) fun w hS =>lx hS fun jj =>?_
 refine dl 9 O (by kernel_rfl)<|sa 0 ag22 hS O O O (BV_one _) O (BV_size _) (BV_size _) fun w hS =>ly O<|de (by kernel_rfl)<|wt<|wc_ret<|fin1 (v := .agg (BV (runf (bkK key 11) bckT 3 back b))) O ⟨_, O, lv_a ag22 (hS.get 0 O) (BV_size _)⟩ ?_
 exact ⟨rfl, hS.drop⟩
theorem sp_open_Decrypt_1 (a : Option Addr) (n cap : Nat) (bs : List UInt8) (wh ck : V8 16) (ob E cb E2 : Nat) (oa : Option Addr) (on oc : Nat) (xs : List UInt8) (X : List (Nat × Obj)) (w0 : World) (hn : bs.length = n) (hN : on + n ≤ 2000000) (hc : Cel w0 a (c8 bs)) (hb : w0.heap[ob]? = some (.cells #[.slice oa on oc] E)) (hb2 : w0.heap[cb]? = some (.cells (BV ck) E2)) (hO : Own 1 oa on oc (c8 xs) X) (hX : ∀ p ∈ X, w0.heap[p.1]? = some p.2) (hd : (ob :: cb :: X.map Prod.fst).Nodup) : Calls Tryz.prog 150 #[.slice a n cap, .agg (BV wh), Ptr ob 0, Ptr cb 0] w0 fun e w' => ∃ a' c' X', (∃ v, e = .returned v) ∧ Own 1 a' (on + n) c' (c8 (xs ++ bs)) X' ∧ St w0 (ob :: cb :: X.map Prod.fst) ((ob, .cells #[.slice a' (on + n) c'] E) :: (cb, .cells (BV (xorV ck wh)) E2) :: (X' ++ [])) w' := by
 refine enter (args := [.slice a n cap, .agg (BV wh), Ptr ob 0, Ptr cb 0]) Tryz.func150 O O ?_
 have hS : St w0 (ob :: cb :: X.map Prod.fst) ([(ob, .cells (#[.slice oa on oc]) E), (cb, .cells (BV ck) E2)] ++ (X ++ [])) w0 := by
  have h := St.start w0 ((ob, .cells #[.slice oa on oc] E) :: (cb, .cells (BV ck) E2) :: X) (fun p hp => by rcases List.mem_cons.1 hp with rfl | hp; exact hb; rcases List.mem_cons.1 hp with rfl | hp; exact hb2; exact hX p hp) hd
  simpa using h
 refine rg<|bxa hS O O O fun b5 w hb5 hS =>wt<|rg<|lo 1 sc30 hS O O O O O<|mv O O O<|app (A := [(b5, .cells (BV wh) 22), (ob, .cells (#[.slice oa on oc]) E), (cb, .cells (BV ck) E2)]) (R := []) sl30 hO hS O O O O (src8 un30 _ (hc.st (St.same2 (q := (ob, .cells #[.slice oa on oc] E)) (r := (cb, .cells (BV ck) E2)) hS hb hb2 hX)) (by first | rfl | omega | (simp; omega) | (simp; done))) (by omega) (by omega) fun a8 cq8 X8 w hO8 hS =>?_
 try simp only [c8_app] at hO8
 refine st 1 sz30 hS O O O O O O Nat.zero_lt_one O fun w hS =>wt<|wc_region<|la 2 ag22 hS O O O O (BV_size _)<|la 0 ag22 hS O O O O (BV_size _)<|cv cf143 hS O O O O O (sp_block_Xor ck wh _) fun w hS =>sa 2 ag22 hS O O O (BV_one _) O (BV_size _) (BV_size _) fun w hS =>q_norm_ret<|fin0 O ?_
 exact ⟨_, _, _, ⟨_, rfl⟩, hO8, hS.tl⟩
end Go.Proofs.XS
