/- Part 4 of the ground of this seat's proofs: rules of a calculus of walks, and what the functions of the lower layers compute; no conditions beyond those that each statement bears. -/
import Derived.Test.YtdcophmboncacaaGreatDoorBase3
import Derived.Test.YtdcophmboncacaaGreatDoorProg
import Derived.Shelf.Small.Utf8
import Derived.Shelf.Small.Strs
import Derived.Shelf.Strings.Search1
import Derived.Shelf.GgClosure.StringsIndexFunc
import Derived.Ground.GgwProg
import Derived.Shelf.GgClosure.StringsIndexFuncTop
import Derived.Shelf.Strings.Runes
import Derived.Shelf.Strings.FuncGrows
set_option linter.unusedVariables false
set_option linter.unusedSimpArgs false
set_option linter.unnecessarySimpa false
/- walks -/
namespace Go.Proofs.XS
open Go Go.X Go.Proofs
set_option maxRecDepth 100000 in
theorem sp_fast_run (b : V8 16) (kb ko tb to step fid KE TE : Nat) (kcs tcs : Array Value) (kv : V32 44) (tv : V32 256) (g : UInt8 → UInt8) (step_ : Int) (w0 : World) (hstep_ : step_ = (step : Int)) (hs3 : step ≤ 3) (hkb : w0.heap[kb]? = some (.cells kcs KE)) (htb : w0.heap[tb]? = some (.cells tcs TE)) (hk0 : ∀ o i : Nat, o = ko + i → i < 44 → kcs[o]? = some (U32 (gw kv i))) (ht0 : ∀ o i : Nat, o = to + i → i < 256 → tcs[o]? = some (U32 (gw tv i))) (hcf : Callable Tryz.prog fid) (hf : ∀ (x : UInt8) (w : World), St w0 [] [] w → Calls Tryz.prog fid #[U8 x] w (Ret w (U8 (g x)))) : Calls Tryz.prog 106 #[.agg (BV b), Ptr kb ko, Ptr tb to, I step_, .func (.func fid) #[] #[]] w0 (Ret w0 (.agg (BV (runf kv tv step g b)))) := by
  subst hstep_
  refine enter (args := [.agg (BV b), Ptr kb ko, Ptr tb to, I (step : Int), .func (.func fid) #[] #[]]) Tryz.func106 rfl rfl ?_
  refine startw fun w hS => ?_
  refine rg ?_
  refine bxa hS rfl rfl rfl ?_
  intro b5 w hb5 hS
  refine bx1 hS rfl rfl rfl rfl ?_
  intro b8 w hb8 hS
  refine ala zr22 hS rfl rfl ?_
  intro b10 w hb10 hS
  refine wq_then ?_
  refine rg ?_
  refine la 2 ag22 hS rfl rfl rfl rfl (BV_size _) ?_
  refine cv cf75 hS rfl rfl rfl rfl rfl (sp_fast_words (b) _) ?_
  intro w hS
  refine ala zr144 hS rfl rfl ?_
  intro b11 w hb11 hS
  refine sa 0 ag144 hS rfl rfl rfl (WV_one _) rfl (WV_size _) (WV_size _) ?_
  intro w hS
  refine wq_then ?_
  refine wc_seq ?_
  refine rg ?_
  refine mv rfl rfl rfl ?_
  refine wq_then ?_
  refine wc_block ?_
  refine wc_loop (σ := Nat) (fun k => [(1, Ptr kb (ko)), (2, Ptr tb (to)), (4, .func (.func fid) #[] #[]), (8, Ptr b8 0), (10, Ptr b10 0), (11, Ptr b11 0), (23, I ((k : Int)))])
    (fun k w => (k ≤ 4) ∧ St w0 [] [(b11, .cells (WV (fill32 4 (fun i => gw (wds b) i ^^^ gw kv i) (wds b) k)) 144), (b10, .cells (BV (Vector.replicate 16 0)) 22), (b8, .cells (#[I ((step : Int))]) 3), (b5, .cells (BV b) 22)] w) (fun k => 4 - k) 0 ⟨rfl, rfl, rfl, rfl, rfl, rfl, rfl, trivial⟩ ⟨by omega, (by simp only [Nat.zero_mul, Nat.add_zero, fill8_0, fill32_0]; exact hS)⟩ ?_
  rintro k w ⟨hk, hS⟩
  refine rg ?_
  refine lss rfl rfl rfl rfl ?_
  refine wq_then ?_
  refine wc_seq ?_
  refine wc_if rfl (fun hc1 => ?_) (fun hc1 => ?_)
  · skip
    try simp only [SB] at hc1
    refine wc_skip ?_
    refine wq_then ?_
    refine wc_seq ?_
    refine wc_block ?_
    refine rg ?_
    refine mv rfl rfl rfl ?_
    refine asg rfl rfl rfl ?_
    refine wq_then ?_
    refine wc_draw mo 10 (fun w => St w0 [] [(b11, .cells (WV (fill32 4 (fun i => gw (wds b) i ^^^ gw kv i) (wds b) k)) 144), (b10, .cells (BV (Vector.replicate 16 0)) 22), (b8, .cells (#[I ((step : Int))]) 3), (b5, .cells (BV b) 22)] w) ?_
    have hS := hS.drew
    refine dq 0 rfl (by kernel_rfl) (by kernel_rfl) (by kernel_rfl) rfl rfl (fun w hS => mv rfl rfl rfl ⟨rfl, rfl⟩) hS ?_
    refine dq 1 rfl (by kernel_rfl) (by kernel_rfl) (by kernel_rfl) rfl rfl (fun w hS => ian (k) (k) Tryz.underlying144 sz72 rfl rfl rfl rfl (by omega) (by omega) (by omega) ⟨rfl, rfl⟩) hS ?_
    refine dq 2 rfl (by kernel_rfl) (by kernel_rfl) (by kernel_rfl) rfl rfl (fun w hS => lo 0 sc72 hS rfl rfl rfl rfl (WV_get _ k (by omega)) ⟨rfl, rfl⟩) hS ?_
    refine dq 3 rfl (by kernel_rfl) (by kernel_rfl) (by kernel_rfl) rfl rfl (fun w hS => mv rfl rfl rfl ⟨rfl, rfl⟩) hS ?_
    refine dq 4 rfl (by kernel_rfl) (by kernel_rfl) (by kernel_rfl) rfl rfl (fun w hS => mv rfl rfl rfl ⟨rfl, rfl⟩) hS ?_
    refine dq 5 rfl (by kernel_rfl) (by kernel_rfl) (by kernel_rfl) rfl rfl (fun w hS => nilp rfl rfl rfl ⟨rfl, rfl⟩) hS ?_
    refine dq 6 rfl (by kernel_rfl) (by kernel_rfl) (by kernel_rfl) rfl rfl (fun w hS => ian (0) (ko) Tryz.underlying145 sz144 rfl rfl rfl rfl (by omega) (by omega) (by omega) ⟨rfl, rfl⟩) hS ?_
    refine dq 7 rfl (by kernel_rfl) (by kernel_rfl) (by kernel_rfl) rfl rfl (fun w hS => ian (k) (ko + k) Tryz.underlying144 sz72 rfl rfl rfl rfl (by omega) (by omega) (by omega) ⟨rfl, rfl⟩) hS ?_
    refine dq 8 rfl (by kernel_rfl) (by kernel_rfl) (by kernel_rfl) rfl rfl (fun w hS => lod hkb List.not_mem_nil sc72 hS rfl rfl rfl (hk0 _ k (by omega) (by omega)) ⟨rfl, rfl⟩) hS ?_
    refine dq 9 rfl (by kernel_rfl) (by kernel_rfl) (by kernel_rfl) rfl rfl (fun w hS => xor32 rfl rfl rfl rfl ⟨rfl, rfl⟩) hS ?_
    refine dl 10 rfl (by kernel_rfl) ?_
    refine ian (k) (k) Tryz.underlying144 sz72 rfl rfl rfl rfl (by omega) (by omega) (by omega) ?_
    refine ⟨fun h => (by cases h), ?_⟩
    refine dl 11 rfl (by kernel_rfl) ?_
    refine st (cs' := WV (fill32 4 (fun i => gw (wds b) i ^^^ gw kv i) (wds b) (k + 1))) 0 sz72 hS rfl rfl rfl rfl rfl rfl (by rw [WV_size]; omega) (by rw [WV_set, gw_fill_ge _ _ (Nat.le_refl _)]; exact congrArg WV (fill32_succ (fun i => gw (wds b) i ^^^ gw kv i) (wds b) k)) ?_
    intro w hS
    refine ⟨fun h => (by cases h), ?_⟩
    refine de (by kernel_rfl) ?_
    refine q_block_norm ?_
    refine wq_then ?_
    refine wc_region ?_
    refine addi (by omega) (by omega) rfl rfl rfl rfl ?_
    refine mv rfl rfl rfl ?_
    refine again_q (k + 1) ⟨rfl, rfl, rfl, rfl, rfl, rfl, lkI rfl (by first | omega | rfl), trivial⟩ ⟨by omega, hS⟩ (by omega)
  · skip
    try simp only [SB] at hc1
    refine wc_exit ?_
    refine q_then_exit ?_
    refine q_then_exit ?_
    refine q_block_hit ?_
    refine wq_then ?_
    refine rg ?_
    refine mkf rfl rfl rfl ?_
    refine asg rfl rfl rfl ?_
    refine wq_then ?_
    refine wc_seq ?_
    refine rg ?_
    refine asg rfl rfl rfl ?_
    refine wq_then ?_
    refine wc_block ?_
    refine wc_loop (σ := Nat) (fun n => [(1, Ptr kb (ko)), (2, Ptr tb (to)), (4, .func (.func fid) #[] #[]), (10, Ptr b10 0), (11, Ptr b11 0), (13, .func (.func 129) #[] #[Ptr b8 0]), (14, I (((n + 1 : Nat) : Int)))])
      (fun n w => (n ≤ 9) ∧ St w0 [] [(b11, .cells (WV ((stL kv tv step b n))) 144), (b10, .cells (BV (Vector.replicate 16 0)) 22), (b8, .cells (#[I ((step : Int))]) 3), (b5, .cells (BV b) 22)] w) (fun n => 9 - n) 0 ⟨rfl, rfl, rfl, rfl, rfl, rfl, rfl, trivial⟩ ⟨by omega, (run_ini hS (by omega))⟩ ?_
    rintro n w ⟨hn, hS⟩
    refine wc_seq ?_
    refine rg ?_
    refine mv rfl rfl rfl ?_
    refine lss rfl rfl rfl rfl ?_
    refine wq_then ?_
    refine wc_if rfl (fun hc2 => ?_) (fun hc2 => ?_)
    · skip
      try simp only [SB] at hc2
      refine wc_skip ?_
      refine wq_then ?_
      refine wc_seq ?_
      refine wc_block ?_
      refine rg ?_
      refine ala zr144 hS rfl rfl ?_
      intro b15 w hb15 hS
      refine wq_then ?_
      refine wc_seq ?_
      refine rg ?_
      refine mv rfl rfl rfl ?_
      refine wq_then ?_
      refine wc_block ?_
      refine wc_loop (σ := Nat) (fun c => [(1, Ptr kb (ko)), (2, Ptr tb (to)), (4, .func (.func fid) #[] #[]), (10, Ptr b10 0), (11, Ptr b11 0), (13, .func (.func 129) #[] #[Ptr b8 0]), (14, I (((n + 1 : Nat) : Int))), (15, Ptr b15 0), (43, I ((c : Int)))])
        (fun c w => (c ≤ 4) ∧ St w0 [] [(b15, .cells (WV (fill32 4 (fun c => rowL kv tv step (stL kv tv step b n) (n + 1) c 4) (Vector.replicate 4 0) c)) 144), (b11, .cells (WV ((stL kv tv step b n))) 144), (b10, .cells (BV (Vector.replicate 16 0)) 22), (b8, .cells (#[I ((step : Int))]) 3), (b5, .cells (BV b) 22)] w) (fun c => 4 - c) 0 ⟨rfl, rfl, rfl, rfl, rfl, rfl, rfl, rfl, rfl, trivial⟩ ⟨by omega, (by simp only [Nat.zero_mul, Nat.add_zero, fill8_0, fill32_0]; exact hS)⟩ ?_
      rintro c w ⟨hc, hS⟩
      refine rg ?_
      refine lss rfl rfl rfl rfl ?_
      refine wq_then ?_
      refine wc_seq ?_
      refine wc_if rfl (fun hc3 => ?_) (fun hc3 => ?_)
      · skip
        try simp only [SB] at hc3
        refine wc_skip ?_
        refine wq_then ?_
        refine wc_seq ?_
        refine wc_block ?_
        refine rg ?_
        refine mv rfl rfl rfl ?_
        refine asg rfl rfl rfl ?_
        refine wq_then ?_
        refine rg ?_
        refine mv rfl rfl rfl ?_
        refine mv rfl rfl rfl ?_
        refine mv rfl rfl rfl ?_
        refine mv rfl rfl rfl ?_
        refine nilp rfl rfl rfl ?_
        refine ian ((n + 1)) (ko + (n + 1) * 4) Tryz.underlying145 sz144 rfl rfl rfl rfl (by omega) (by omega) (by omega) ?_
        refine ian (c) (ko + (n + 1) * 4 + c) Tryz.underlying144 sz72 rfl rfl rfl rfl (by omega) (by omega) (by omega) ?_
        refine lod hkb List.not_mem_nil sc72 hS rfl rfl rfl (hk0 _ ((n + 1) * 4 + c) (by omega) (by omega)) ?_
        refine ian (c) (c) Tryz.underlying144 sz72 rfl rfl rfl rfl (by omega) (by omega) (by omega) ?_
        refine st 0 sz72 hS rfl rfl rfl rfl rfl rfl (by rw [WV_size]; omega) (WV_set _ _ (gw kv ((n + 1) * 4 + c) : UInt32)) ?_
        intro w hS
        refine wq_then ?_
        refine rg ?_
        refine mv rfl rfl rfl ?_
        refine wq_then ?_
        refine wc_block ?_
        refine wc_loop (σ := Nat) (fun q => [(1, Ptr kb (ko)), (2, Ptr tb (to)), (4, .func (.func fid) #[] #[]), (10, Ptr b10 0), (11, Ptr b11 0), (13, .func (.func 129) #[] #[Ptr b8 0]), (14, I (((n + 1 : Nat) : Int))), (15, Ptr b15 0), (16, I ((c : Int))), (43, I ((c : Int))), (55, I ((q : Int)))])
          (fun q w => (q ≤ 4) ∧ St w0 [] [(b15, .cells (WV ((fill32 4 (fun c => rowL kv tv step (stL kv tv step b n) (n + 1) c 4) (Vector.replicate 4 0) c).setIfInBounds c (rowL kv tv step (stL kv tv step b n) (n + 1) c q))) 144), (b11, .cells (WV ((stL kv tv step b n))) 144), (b10, .cells (BV (Vector.replicate 16 0)) 22), (b8, .cells (#[I ((step : Int))]) 3), (b5, .cells (BV b) 22)] w) (fun q => 4 - q) 0 ⟨rfl, rfl, rfl, rfl, rfl, rfl, rfl, rfl, rfl, rfl, rfl, trivial⟩ ⟨by omega, hS⟩ ?_
        rintro q w ⟨hq, hS⟩
        refine rg ?_
        refine lss rfl rfl rfl rfl ?_
        refine wq_then ?_
        refine wc_seq ?_
        refine wc_if rfl (fun hc4 => ?_) (fun hc4 => ?_)
        · skip
          try simp only [SB] at hc4
          refine wc_skip ?_
          refine wq_then ?_
          refine wc_seq ?_
          refine wc_block ?_
          refine rg ?_
          refine mv rfl rfl rfl ?_
          refine asg rfl rfl rfl ?_
          refine wq_then ?_
          refine rd mo 9 (fun w => St w0 [] [(b15, .cells (WV ((fill32 4 (fun c => rowL kv tv step (stL kv tv step b n) (n + 1) c 4) (Vector.replicate 4 0) c).setIfInBounds c (rowL kv tv step (stL kv tv step b n) (n + 1) c q))) 144), (b11, .cells (WV ((stL kv tv step b n))) 144), (b10, .cells (BV (Vector.replicate 16 0)) 22), (b8, .cells (#[I ((step : Int))]) 3), (b5, .cells (BV b) 22)] w) ?_
          have hS := hS.drew
          refine dq 0 rfl (by kernel_rfl) (by kernel_rfl) (by kernel_rfl) rfl rfl (fun w hS => mv rfl rfl rfl ⟨rfl, rfl⟩) hS ?_
          refine dq 1 rfl (by kernel_rfl) (by kernel_rfl) (by kernel_rfl) rfl rfl (fun w hS => mv rfl rfl rfl ⟨rfl, rfl⟩) hS ?_
          refine dq 2 rfl (by kernel_rfl) (by kernel_rfl) (by kernel_rfl) rfl rfl (fun w hS => la 1 ag144 hS rfl rfl rfl rfl (WV_size _) ⟨rfl, rfl⟩) hS ?_
          refine dq 3 rfl (by kernel_rfl) (by kernel_rfl) (by kernel_rfl) rfl rfl (fun w hS => mv rfl rfl rfl ⟨rfl, rfl⟩) hS ?_
          refine dq 4 rfl (by kernel_rfl) (by kernel_rfl) (by kernel_rfl) rfl rfl (fun w hS => mv rfl rfl rfl ⟨rfl, rfl⟩) hS ?_
          refine dq 6 rfl (by kernel_rfl) (by kernel_rfl) (by kernel_rfl) rfl rfl (fun w hS => nilp rfl rfl rfl ⟨rfl, rfl⟩) hS ?_
          refine dl 5 rfl (by kernel_rfl) ?_
          refine cv cf129 hS rfl rfl rfl rfl rfl (sp_fast_run_1 ((stL kv tv step b n)) (c) (q) (b8) (_) (step) _ _ _ (by omega) (by omega) (by omega) (by omega) (by omega) (hS.get 3 rfl)) ?_
          intro w hS
          refine ⟨fun _ => hS, ?_⟩
          refine dq 7 rfl (by kernel_rfl) (by kernel_rfl) (by kernel_rfl) rfl rfl (fun w hS => ian ((pick (stL kv tv step b n) step c q).toNat) (to + ((pick (stL kv tv step b n) step c q).toNat)) Tryz.underlying140 sz72 rfl rfl rfl rfl (by omega) (by have := (pick (stL kv tv step b n) step c q).toNat_lt; omega) (by omega) ⟨rfl, rfl⟩) hS ?_
          refine dq 8 rfl (by kernel_rfl) (by kernel_rfl) (by kernel_rfl) rfl rfl (fun w hS => lod htb List.not_mem_nil sc72 hS rfl rfl rfl (ht0 _ ((pick (stL kv tv step b n) step c q).toNat) (by have := (pick (stL kv tv step b n) step c q).toNat_lt; omega) (by have := (pick (stL kv tv step b n) step c q).toNat_lt; omega)) ⟨rfl, rfl⟩) hS ?_
          refine dl 9 rfl (by kernel_rfl) ?_
          refine asg rfl rfl rfl ?_
          refine ⟨fun h => (by cases h), ?_⟩
          refine de (by kernel_rfl) ?_
          refine wq_then ?_
          refine wc_seq ?_
          refine rg ?_
          refine mv rfl rfl rfl ?_
          refine gtr rfl rfl rfl rfl ?_
          refine wq_then ?_
          refine wc_if rfl (fun hc5 => ?_) (fun hc5 => ?_)
          · skip
            try simp only [SB] at hc5
            refine wc_region ?_
            refine mv rfl rfl rfl ?_
            refine mv rfl rfl rfl ?_
            refine cv cf130 hS rfl rfl rfl rfl rfl (sp_fast_rotate ((gw tv ((pick (stL kv tv step b n) step c q).toNat))) (q) _ _ (by omega) (by omega)) ?_
            intro w hS
            refine asg rfl rfl rfl ?_
            refine wq_then ?_
            refine wc_region ?_
            refine mv rfl rfl rfl ?_
            refine ian (c) (c) Tryz.underlying144 sz72 rfl rfl rfl rfl (by omega) (by omega) (by omega) ?_
            refine lo 0 sc72 hS rfl rfl rfl rfl (WV_get _ c (by omega)) ?_
            refine mv rfl rfl rfl ?_
            refine xor32 rfl rfl rfl rfl ?_
            refine ian (c) (c) Tryz.underlying144 sz72 rfl rfl rfl rfl (by omega) (by omega) (by omega) ?_
            refine st (cs' := WV ((fill32 4 (fun c => rowL kv tv step (stL kv tv step b n) (n + 1) c 4) (Vector.replicate 4 0) c).setIfInBounds c (rowL kv tv step (stL kv tv step b n) (n + 1) c (q + 1)))) 0 sz72 hS rfl rfl rfl rfl rfl rfl (by rw [WV_size]; omega) (by rw [WV_set]; exact congrArg WV (run_qp _ (by omega) (by omega))) ?_
            intro w hS
            refine q_block_norm ?_
            refine wq_then ?_
            refine wc_region ?_
            refine addi (by omega) (by omega) rfl rfl rfl rfl ?_
            refine mv rfl rfl rfl ?_
            refine again_q (q + 1) ⟨rfl, rfl, rfl, rfl, rfl, rfl, rfl, rfl, rfl, rfl, lkI rfl (by first | omega | rfl), trivial⟩ ⟨by omega, hS⟩ (by omega)
          · skip
            try simp only [SB] at hc5
            refine wc_skip ?_
            refine wq_then ?_
            refine wc_region ?_
            refine mv rfl rfl rfl ?_
            refine ian (c) (c) Tryz.underlying144 sz72 rfl rfl rfl rfl (by omega) (by omega) (by omega) ?_
            refine lo 0 sc72 hS rfl rfl rfl rfl (WV_get _ c (by omega)) ?_
            refine mv rfl rfl rfl ?_
            refine xor32 rfl rfl rfl rfl ?_
            refine ian (c) (c) Tryz.underlying144 sz72 rfl rfl rfl rfl (by omega) (by omega) (by omega) ?_
            refine st (cs' := WV ((fill32 4 (fun c => rowL kv tv step (stL kv tv step b n) (n + 1) c 4) (Vector.replicate 4 0) c).setIfInBounds c (rowL kv tv step (stL kv tv step b n) (n + 1) c (q + 1)))) 0 sz72 hS rfl rfl rfl rfl rfl rfl (by rw [WV_size]; omega) (by rw [WV_set]; exact congrArg WV (run_qz _ (by omega) (by omega))) ?_
            intro w hS
            refine q_block_norm ?_
            refine wq_then ?_
            refine wc_region ?_
            refine addi (by omega) (by omega) rfl rfl rfl rfl ?_
            refine mv rfl rfl rfl ?_
            refine again_q (q + 1) ⟨rfl, rfl, rfl, rfl, rfl, rfl, rfl, rfl, rfl, rfl, lkI rfl (by first | omega | rfl), trivial⟩ ⟨by omega, hS⟩ (by omega)
        · skip
          try simp only [SB] at hc4
          refine wc_exit ?_
          refine q_then_exit ?_
          refine q_then_exit ?_
          refine q_block_hit ?_
          refine q_block_norm ?_
          refine wq_then ?_
          refine wc_region ?_
          refine addi (by omega) (by omega) rfl rfl rfl rfl ?_
          refine mv rfl rfl rfl ?_
          refine again_q (c + 1) ⟨rfl, rfl, rfl, rfl, rfl, rfl, rfl, rfl, lkI rfl (by first | omega | rfl), trivial⟩ ⟨by omega, (run_cel hS (by omega))⟩ (by omega)
      · skip
        try simp only [SB] at hc3
        refine wc_exit ?_
        refine q_then_exit ?_
        refine q_then_exit ?_
        refine q_block_hit ?_
        refine wq_then ?_
        refine wc_region ?_
        refine la 0 ag144 hS rfl rfl rfl rfl (WV_size _) ?_
        refine sa 1 ag144 hS rfl rfl rfl (WV_one _) rfl (WV_size _) (WV_size _) ?_
        intro w hS
        refine q_block_norm ?_
        refine wq_then ?_
        refine wc_region ?_
        refine mv rfl rfl rfl ?_
        refine addi (by omega) (by omega) rfl rfl rfl rfl ?_
        refine asg rfl rfl rfl ?_
        refine again_q (n + 1) ⟨rfl, rfl, rfl, rfl, rfl, rfl, lkI rfl (by first | omega | rfl), trivial⟩ ⟨by omega, (run_rnd hS.tl (by omega))⟩ (by omega)
    · skip
      try simp only [SB] at hc2
      have hn9 : n = 9 := by omega
      obtain ⟨s9, hs9⟩ : ∃ s9, s9 = stL kv tv step b n := ⟨_, rfl⟩
      rw [← hs9] at hS
      refine wc_exit ?_
      refine q_then_exit ?_
      refine q_then_exit ?_
      refine q_block_hit ?_
      refine wq_then ?_
      refine rg ?_
      refine ala zr22 hS rfl rfl ?_
      intro b19 w hb19 hS
      refine wq_then ?_
      refine wc_seq ?_
      refine rg ?_
      refine mv rfl rfl rfl ?_
      refine wq_then ?_
      refine wc_block ?_
      refine wc_loop (σ := Nat) (fun k => [(1, Ptr kb (ko)), (4, .func (.func fid) #[] #[]), (10, Ptr b10 0), (11, Ptr b11 0), (13, .func (.func 129) #[] #[Ptr b8 0]), (19, Ptr b19 0), (81, I ((k : Int)))])
        (fun k w => (k ≤ 16) ∧ St w0 [] [(b19, .cells (BV (fill8 16 (lastf kv step g s9) (Vector.replicate 16 0) k)) 22), (b11, .cells (WV s9) 144), (b10, .cells (BV (Vector.replicate 16 0)) 22), (b8, .cells (#[I ((step : Int))]) 3), (b5, .cells (BV b) 22)] w) (fun k => 16 - k) 0 ⟨rfl, rfl, rfl, rfl, rfl, rfl, rfl, trivial⟩ ⟨by omega, (by simp only [Nat.zero_mul, Nat.add_zero, fill8_0, fill32_0]; exact hS)⟩ ?_
      rintro k w ⟨hk, hS⟩
      refine rg ?_
      refine lss rfl rfl rfl rfl ?_
      refine wq_then ?_
      refine wc_seq ?_
      refine wc_if rfl (fun hc6 => ?_) (fun hc6 => ?_)
      · skip
        try simp only [SB] at hc6
        refine wc_skip ?_
        refine wq_then ?_
        refine wc_seq ?_
        refine wc_block ?_
        refine rg ?_
        refine mv rfl rfl rfl ?_
        refine asg rfl rfl rfl ?_
        refine wq_then ?_
        refine wc_draw mo 24 (fun w => St w0 [] [(b19, .cells (BV (fill8 16 (lastf kv step g s9) (Vector.replicate 16 0) k)) 22), (b11, .cells (WV s9) 144), (b10, .cells (BV (Vector.replicate 16 0)) 22), (b8, .cells (#[I ((step : Int))]) 3), (b5, .cells (BV b) 22)] w) ?_
        have hS := hS.drew
        refine dq 0 rfl (by kernel_rfl) (by kernel_rfl) (by kernel_rfl) rfl rfl (fun w hS => mv rfl rfl rfl ⟨rfl, rfl⟩) hS ?_
        refine dq 1 rfl (by kernel_rfl) (by kernel_rfl) (by kernel_rfl) rfl rfl (fun w hS => mv rfl rfl rfl ⟨rfl, rfl⟩) hS ?_
        refine dq 2 rfl (by kernel_rfl) (by kernel_rfl) (by kernel_rfl) rfl rfl (fun w hS => mv rfl rfl rfl ⟨rfl, rfl⟩) hS ?_
        refine dq 3 rfl (by kernel_rfl) (by kernel_rfl) (by kernel_rfl) rfl rfl (fun w hS => la 1 ag144 hS rfl rfl rfl rfl (WV_size _) ⟨rfl, rfl⟩) hS ?_
        refine dq 4 rfl (by kernel_rfl) (by kernel_rfl) (by kernel_rfl) rfl rfl (fun w hS => mv rfl rfl rfl ⟨rfl, rfl⟩) hS ?_
        refine dq 5 rfl (by kernel_rfl) (by kernel_rfl) (by kernel_rfl) rfl rfl (fun w hS => shri (D := 4) (by decide) (by decide) (by decide) rfl rfl rfl rfl ⟨rfl, rfl⟩) hS ?_
        refine dq 6 rfl (by kernel_rfl) (by kernel_rfl) (by kernel_rfl) rfl rfl (fun w hS => mv rfl rfl rfl ⟨rfl, rfl⟩) hS ?_
        refine dq 7 rfl (by kernel_rfl) (by kernel_rfl) (by kernel_rfl) rfl rfl (fun w hS => andi (D := 4) 2 (by decide) (by decide) (by decide) rfl rfl rfl rfl ⟨rfl, rfl⟩) hS ?_
        refine dq 10 rfl (by kernel_rfl) (by kernel_rfl) (by kernel_rfl) rfl rfl (fun w hS => mv rfl rfl rfl ⟨rfl, rfl⟩) hS ?_
        refine dq 11 rfl (by kernel_rfl) (by kernel_rfl) (by kernel_rfl) rfl rfl (fun w hS => mv rfl rfl rfl ⟨rfl, rfl⟩) hS ?_
        refine dq 12 rfl (by kernel_rfl) (by kernel_rfl) (by kernel_rfl) rfl rfl (fun w hS => shri (D := 4) (by decide) (by decide) (by decide) rfl rfl rfl rfl ⟨rfl, rfl⟩) hS ?_
        refine dq 13 rfl (by kernel_rfl) (by kernel_rfl) (by kernel_rfl) rfl rfl (fun w hS => nilp rfl rfl rfl ⟨rfl, rfl⟩) hS ?_
        refine dq 14 rfl (by kernel_rfl) (by kernel_rfl) (by kernel_rfl) rfl rfl (fun w hS => ian (10) (ko + 40) Tryz.underlying145 sz144 rfl rfl rfl rfl (by omega) (by omega) (by omega) ⟨rfl, rfl⟩) hS ?_
        refine dq 15 rfl (by kernel_rfl) (by kernel_rfl) (by kernel_rfl) rfl rfl (fun w hS => ian (k / 4) (ko + 40 + (k / 4)) Tryz.underlying144 sz72 rfl rfl rfl rfl (by omega) (by omega) (by omega) ⟨rfl, rfl⟩) hS ?_
        refine dq 16 rfl (by kernel_rfl) (by kernel_rfl) (by kernel_rfl) rfl rfl (fun w hS => lod hkb List.not_mem_nil sc72 hS rfl rfl rfl (hk0 _ (40 + (k / 4)) (by omega) (by omega)) ⟨rfl, rfl⟩) hS ?_
        refine dq 17 rfl (by kernel_rfl) (by kernel_rfl) (by kernel_rfl) rfl rfl (fun w hS => mv rfl rfl rfl ⟨rfl, rfl⟩) hS ?_
        refine dq 18 rfl (by kernel_rfl) (by kernel_rfl) (by kernel_rfl) rfl rfl (fun w hS => andi (D := 4) 2 (by decide) (by decide) (by decide) rfl rfl rfl rfl ⟨rfl, rfl⟩) hS ?_
        refine dq 19 rfl (by kernel_rfl) (by kernel_rfl) (by kernel_rfl) rfl rfl (fun w hS => muli (by omega) (by omega) rfl rfl rfl rfl ⟨rfl, rfl⟩) hS ?_
        refine dq 20 rfl (by kernel_rfl) (by kernel_rfl) (by kernel_rfl) rfl rfl (fun w hS => subi (by omega) (by omega) rfl rfl rfl rfl ⟨rfl, rfl⟩) hS ?_
        refine dq 21 rfl (by kernel_rfl) (by kernel_rfl) (by kernel_rfl) rfl rfl (fun w hS => shrn32 (24 - (8 * (k % 4))) (by omega) rfl rfl rfl rfl ⟨rfl, rfl⟩) hS ?_
        refine dq 22 rfl (by kernel_rfl) (by kernel_rfl) (by kernel_rfl) rfl rfl (fun w hS => cvu8 Tryz.underlying5 ⟨_, Tryz.underlying72⟩ rfl rfl rfl ⟨rfl, rfl⟩) hS ?_
        refine dl 8 rfl (by kernel_rfl) ?_
        refine cv cf129 hS rfl rfl rfl rfl rfl (sp_fast_run_1 (s9) ((k / 4)) ((k % 4)) (b8) (_) (step) _ _ _ (by omega) (by omega) (by omega) (by omega) (by omega) (hS.get 3 rfl)) ?_
        intro w hS
        refine ⟨fun _ => hS, ?_⟩
        refine dl 9 rfl (by kernel_rfl) ?_
        refine cv hcf hS rfl rfl rfl rfl rfl (hf _ _ hS.drop) ?_
        intro w hS
        refine ⟨fun _ => hS, ?_⟩
        refine dq 23 rfl (by kernel_rfl) (by kernel_rfl) (by kernel_rfl) rfl rfl (fun w hS => xor8 rfl rfl rfl rfl ⟨rfl, rfl⟩) hS ?_
        refine dl 24 rfl (by kernel_rfl) ?_
        refine ian (k) (k) Tryz.underlying22 sz5 rfl rfl rfl rfl (by omega) (by omega) (by omega) ?_
        refine ⟨fun h => (by cases h), ?_⟩
        refine dl 25 rfl (by kernel_rfl) ?_
        refine st (cs' := BV (fill8 16 (lastf kv step g s9) (Vector.replicate 16 0) (k + 1))) 0 sz5 hS rfl rfl rfl rfl rfl rfl (by rw [BV_size]; omega) (by rw [BV_set]; exact congrArg BV (fill8_succ (lastf kv step g s9) (Vector.replicate 16 0) k)) ?_
        intro w hS
        refine ⟨fun h => (by cases h), ?_⟩
        refine de (by kernel_rfl) ?_
        refine q_block_norm ?_
        refine wq_then ?_
        refine wc_region ?_
        refine addi (by omega) (by omega) rfl rfl rfl rfl ?_
        refine mv rfl rfl rfl ?_
        refine again_q (k + 1) ⟨rfl, rfl, rfl, rfl, rfl, rfl, lkI rfl (by first | omega | rfl), trivial⟩ ⟨by omega, hS⟩ (by omega)
      · skip
        try simp only [SB] at hc6
        refine wc_exit ?_
        refine q_then_exit ?_
        refine q_then_exit ?_
        refine q_block_hit ?_
        refine wq_then ?_
        refine rg ?_
        refine la 0 ag22 hS rfl rfl rfl rfl (BV_size _) ?_
        refine sa 2 ag22 hS rfl rfl rfl (BV_one _) rfl (BV_size _) (BV_size _) ?_
        intro w hS
        refine wq_then ?_
        refine wc_ret ?_
        refine fin1 (v := .agg (BV (fill8 16 (lastf kv step g s9) (Vector.replicate 16 0) k))) rfl ⟨_, rfl, lv_a ag22 (hS.get 2 rfl) (BV_size _)⟩ ?_
        refine ⟨?_, hS.drop⟩
        have hk4 : k = 16 := by omega
        subst hk4; rw [fill8_n, hs9, hn9]; rfl
end Go.Proofs.XS

/- walks -/
namespace Go.Proofs.XS
open Go Go.X Go.Proofs
set_option maxRecDepth 100000 in
theorem sp_fast_Cipher_right (c E : Nat) (key : V8 16) (w0 : World) (hC : w0.heap[c]? = some (.cells (cipherC key) E)) : Calls Tryz.prog 105 #[Ptr c 0] w0 (Ret w0 (Ptr c 0)) := by
  refine enter (args := [Ptr c 0]) Tryz.func105 rfl rfl ?_
  refine startw fun w hS => ?_
  refine rg ?_
  refine asg rfl rfl rfl ?_
  refine wq_then ?_
  refine wc_seq ?_
  refine rg ?_
  refine mv rfl rfl rfl ?_
  refine eqpn Tryz.underlying79 rfl rfl rfl rfl ?_
  refine mv rfl rfl rfl ?_
  refine mv rfl rfl rfl ?_
  refine nilp rfl rfl rfl ?_
  refine fan (0) (0) Tryz.underlying147 rfl sz4 (by decide) rfl rfl rfl rfl (by omega) ?_
  refine lod hC List.not_mem_nil sc4 hS rfl rfl rfl (cat_l (a := 1) rfl (by omega) rfl) ?_
  refine notb rfl rfl rfl ?_
  refine pk_f rfl rfl rfl rfl ?_
  refine wq_then ?_
  refine wc_if_f rfl ?_
  refine wc_skip ?_
  refine wq_then ?_
  refine rg ?_
  refine mv rfl rfl rfl ?_
  refine asg rfl rfl rfl ?_
  refine wq_then ?_
  refine wc_ret ?_
  refine fin1 (v := Ptr c 0) rfl rfl ?_
  exact ⟨rfl, hS.drop⟩
end Go.Proofs.XS

/- walks -/
namespace Go.Proofs.XS
open Go Go.X Go.Proofs
set_option maxRecDepth 100000 in
theorem sp_fast_Cipher_Encrypt (c E : Nat) (key : V8 16) (b : V8 16) (w0 : World) (hC : w0.heap[c]? = some (.cells (cipherC key) E)) : Calls Tryz.prog 71 #[Ptr c 0, .agg (BV b)] w0 (Ret w0 (.agg (BV (enc key b)))) := by
  refine enter (args := [Ptr c 0, .agg (BV b)]) Tryz.func71 rfl rfl ?_
  refine startw fun w hS => ?_
  refine rg ?_
  refine bxa hS rfl rfl rfl ?_
  intro b3 w hb3 hS
  refine ala zr22 hS rfl rfl ?_
  intro b4 w hb4 hS
  refine wq_then ?_
  refine rg ?_
  refine mv rfl rfl rfl ?_
  refine cv cf105 hS rfl rfl rfl rfl rfl (sp_fast_Cipher_right (c) (_) (_) _ (hS.old hC List.not_mem_nil)) ?_
  intro w hS
  refine asg rfl rfl rfl ?_
  refine wq_then ?_
  refine rd mo 9 (fun w => St w0 [] [(b4, .cells (BV (Vector.replicate 16 0)) 22), (b3, .cells (BV b) 22)] w) ?_
  have hS := hS.drew
  refine dq 0 rfl (by kernel_rfl) (by kernel_rfl) (by kernel_rfl) rfl rfl (fun w hS => la 1 ag22 hS rfl rfl rfl rfl (BV_size _) ⟨rfl, rfl⟩) hS ?_
  refine dq 1 rfl (by kernel_rfl) (by kernel_rfl) (by kernel_rfl) rfl rfl (fun w hS => mv rfl rfl rfl ⟨rfl, rfl⟩) hS ?_
  refine dq 2 rfl (by kernel_rfl) (by kernel_rfl) (by kernel_rfl) rfl rfl (fun w hS => nilp rfl rfl rfl ⟨rfl, rfl⟩) hS ?_
  refine dq 3 rfl (by kernel_rfl) (by kernel_rfl) (by kernel_rfl) rfl rfl (fun w hS => fan (1) (1) Tryz.underlying147 rfl sz145 (by decide) rfl rfl rfl rfl (by omega) ⟨rfl, rfl⟩) hS ?_
  refine dq 4 rfl (by kernel_rfl) (by kernel_rfl) (by kernel_rfl) rfl rfl (fun w hS => mv rfl rfl rfl ⟨rfl, rfl⟩) hS ?_
  refine dq 5 rfl (by kernel_rfl) (by kernel_rfl) (by kernel_rfl) rfl rfl (fun w hS => nilp rfl rfl rfl ⟨rfl, rfl⟩) hS ?_
  refine dq 6 rfl (by kernel_rfl) (by kernel_rfl) (by kernel_rfl) rfl rfl (fun w hS => fan (105) (105) Tryz.underlying147 rfl sz142 (by decide) rfl rfl rfl rfl (by omega) ⟨rfl, rfl⟩) hS ?_
  refine dq 7 rfl (by kernel_rfl) (by kernel_rfl) (by kernel_rfl) rfl rfl (fun w hS => fan (0) (105) Tryz.underlying142 rfl sz140 (by decide) rfl rfl rfl rfl (by omega) ⟨rfl, rfl⟩) hS ?_
  refine dl 8 rfl (by kernel_rfl) ?_
  refine cv cf106 hS rfl rfl rfl rfl rfl (sp_fast_run b c 1 c 105 1 107 _ _ (cipherC key) (cipherC key) (fwK key 11) fwdT sbox _ _ rfl (by omega) (hS.old hC List.not_mem_nil) (hS.old hC List.not_mem_nil) (ci_fw key) (ci_t key) cf107 (fun x w _ => sp_sbox_S x w)) ?_
  intro w hS
  refine ⟨fun _ => hS, ?_⟩
  refine dl 9 rfl (by kernel_rfl) ?_
  refine sa 0 ag22 hS rfl rfl rfl (BV_one _) rfl (BV_size _) (BV_size _) ?_
  intro w hS
  refine ⟨fun h => (by cases h), ?_⟩
  refine de (by kernel_rfl) ?_
  refine wq_then ?_
  refine wc_ret ?_
  refine fin1 (v := .agg (BV (runf (fwK key 11) fwdT 1 sbox b))) rfl ⟨_, rfl, lv_a ag22 (hS.get 0 rfl) (BV_size _)⟩ ?_
  exact ⟨rfl, hS.drop⟩
end Go.Proofs.XS

/- walks -/
namespace Go.Proofs.XS
open Go Go.X Go.Proofs
set_option maxRecDepth 100000 in
theorem sp_block_Double (b : V8 16) (w0 : World) : Calls Tryz.prog 72 #[.agg (BV b)] w0 (Ret w0 (.agg (BV (dblB b)))) := by
  refine enter (args := [.agg (BV b)]) Tryz.func72 rfl rfl ?_
  refine startw fun w hS => ?_
  refine rg ?_
  refine bxa hS rfl rfl rfl ?_
  intro b1 w hb1 hS
  refine ala zr22 hS rfl rfl ?_
  intro b2 w hb2 hS
  refine wq_then ?_
  refine rg ?_
  refine ala zr22 hS rfl rfl ?_
  intro b3 w hb3 hS
  refine wq_then ?_
  refine wc_seq ?_
  refine rg ?_
  refine mv rfl rfl rfl ?_
  refine wq_then ?_
  refine wc_block ?_
  refine wc_loop (σ := Nat) (fun k => [(1, Ptr b1 0), (2, Ptr b2 0), (3, Ptr b3 0), (5, I ((k : Int)))])
    (fun k w => (k ≤ 16) ∧ St w0 [] [(b3, .cells (BV (fill8 16 (dblf b) (Vector.replicate 16 0) k)) 22), (b2, .cells (BV (Vector.replicate 16 0)) 22), (b1, .cells (BV b) 22)] w) (fun k => 16 - k) 0 ⟨rfl, rfl, rfl, rfl, trivial⟩ ⟨by omega, (by simp only [Nat.zero_mul, Nat.add_zero, fill8_0, fill32_0]; exact hS)⟩ ?_
  rintro k w ⟨hk, hS⟩
  refine rg ?_
  refine lss rfl rfl rfl rfl ?_
  refine wq_then ?_
  refine wc_seq ?_
  refine wc_if rfl (fun hc1 => ?_) (fun hc1 => ?_)
  · skip
    try simp only [SB] at hc1
    refine wc_skip ?_
    refine wq_then ?_
    refine wc_seq ?_
    refine wc_block ?_
    refine rg ?_
    refine mv rfl rfl rfl ?_
    refine asg rfl rfl rfl ?_
    refine wq_then ?_
    refine rg ?_
    refine mv rfl rfl rfl ?_
    refine mv rfl rfl rfl ?_
    refine ian (k) (k) Tryz.underlying22 sz5 rfl rfl rfl rfl (by omega) (by omega) (by omega) ?_
    refine lo 2 sc5 hS rfl rfl rfl rfl (BV_get _ k (by omega)) ?_
    refine shln8 (1) (by omega) rfl rfl rfl rfl ?_
    refine ian (k) (k) Tryz.underlying22 sz5 rfl rfl rfl rfl (by omega) (by omega) (by omega) ?_
    refine st 0 sz5 hS rfl rfl rfl rfl rfl rfl (by rw [BV_size]; omega) (BV_set _ _ (shl8 (gv b k) 1 : UInt8)) ?_
    intro w hS
    refine wq_then ?_
    refine rg ?_
    refine mv rfl rfl rfl ?_
    refine addi (by omega) (by omega) rfl rfl rfl rfl ?_
    refine lss rfl rfl rfl rfl ?_
    refine wq_then ?_
    refine wc_if rfl (fun hc2 => ?_) (fun hc2 => ?_)
    · skip
      try simp only [SB] at hc2
      refine wc_draw mo 9 (fun w => St w0 [] [(b3, .cells (BV ((fill8 16 (dblf b) (Vector.replicate 16 0) k).setIfInBounds k (shl8 (gv b k) 1))) 22), (b2, .cells (BV (Vector.replicate 16 0)) 22), (b1, .cells (BV b) 22)] w) ?_
      have hS := hS.drew
      refine dq 0 rfl (by kernel_rfl) (by kernel_rfl) (by kernel_rfl) rfl rfl (fun w hS => mv rfl rfl rfl ⟨rfl, rfl⟩) hS ?_
      refine dq 1 rfl (by kernel_rfl) (by kernel_rfl) (by kernel_rfl) rfl rfl (fun w hS => ian (k) (k) Tryz.underlying22 sz5 rfl rfl rfl rfl (by omega) (by omega) (by omega) ⟨rfl, rfl⟩) hS ?_
      refine dq 2 rfl (by kernel_rfl) (by kernel_rfl) (by kernel_rfl) rfl rfl (fun w hS => lo 0 sc5 hS rfl rfl rfl rfl (BV_get _ k (by omega)) ⟨rfl, rfl⟩) hS ?_
      refine dq 3 rfl (by kernel_rfl) (by kernel_rfl) (by kernel_rfl) rfl rfl (fun w hS => mv rfl rfl rfl ⟨rfl, rfl⟩) hS ?_
      refine dq 4 rfl (by kernel_rfl) (by kernel_rfl) (by kernel_rfl) rfl rfl (fun w hS => addi (by omega) (by omega) rfl rfl rfl rfl ⟨rfl, rfl⟩) hS ?_
      refine dq 5 rfl (by kernel_rfl) (by kernel_rfl) (by kernel_rfl) rfl rfl (fun w hS => ian (k + 1) ((k + 1)) Tryz.underlying22 sz5 rfl rfl rfl rfl (by omega) (by omega) (by omega) ⟨rfl, rfl⟩) hS ?_
      refine dq 6 rfl (by kernel_rfl) (by kernel_rfl) (by kernel_rfl) rfl rfl (fun w hS => lo 2 sc5 hS rfl rfl rfl rfl (BV_get _ (k + 1) (by omega)) ⟨rfl, rfl⟩) hS ?_
      refine dq 7 rfl (by kernel_rfl) (by kernel_rfl) (by kernel_rfl) rfl rfl (fun w hS => shrn8 (7) (by omega) rfl rfl rfl rfl ⟨rfl, rfl⟩) hS ?_
      refine dq 8 rfl (by kernel_rfl) (by kernel_rfl) (by kernel_rfl) rfl rfl (fun w hS => or8 rfl rfl rfl rfl ⟨rfl, rfl⟩) hS ?_
      refine dl 9 rfl (by kernel_rfl) ?_
      refine ian (k) (k) Tryz.underlying22 sz5 rfl rfl rfl rfl (by omega) (by omega) (by omega) ?_
      refine ⟨fun h => (by cases h), ?_⟩
      refine dl 10 rfl (by kernel_rfl) ?_
      refine st (cs' := BV (fill8 16 (dblf b) (Vector.replicate 16 0) (k + 1))) 0 sz5 hS rfl rfl rfl rfl rfl rfl (by rw [BV_size]; omega) (by rw [BV_set]; exact congrArg BV (dbl_t (by omega))) ?_
      intro w hS
      refine ⟨fun h => (by cases h), ?_⟩
      refine de (by kernel_rfl) ?_
      refine q_block_norm ?_
      refine wq_then ?_
      refine wc_region ?_
      refine addi (by omega) (by omega) rfl rfl rfl rfl ?_
      refine mv rfl rfl rfl ?_
      refine again_q (k + 1) ⟨rfl, rfl, rfl, lkI rfl (by first | omega | rfl), trivial⟩ ⟨by omega, hS⟩ (by omega)
    · skip
      try simp only [SB] at hc2
      have hS := dbl_end hS (by omega)
      refine wc_skip ?_
      refine q_block_norm ?_
      refine wq_then ?_
      refine wc_region ?_
      refine addi (by omega) (by omega) rfl rfl rfl rfl ?_
      refine mv rfl rfl rfl ?_
      refine again_q (k + 1) ⟨rfl, rfl, rfl, lkI rfl (by first | omega | rfl), trivial⟩ ⟨by omega, hS⟩ (by omega)
  · skip
    try simp only [SB] at hc1
    have hk4 : k = 16 := by omega
    subst hk4
    rw [fill8_n] at hS
    refine wc_exit ?_
    refine q_then_exit ?_
    refine q_then_exit ?_
    refine q_block_hit ?_
    refine wq_then ?_
    refine rg ?_
    refine ian (15) (15) Tryz.underlying22 sz5 rfl rfl rfl rfl (by omega) (by omega) (by omega) ?_
    refine lo 0 sc5 hS rfl rfl rfl rfl (BV_get _ 15 (by omega)) ?_
    refine ian (0) (0) Tryz.underlying22 sz5 rfl rfl rfl rfl (by omega) (by omega) (by omega) ?_
    refine lo 2 sc5 hS rfl rfl rfl rfl (BV_get _ 0 (by omega)) ?_
    refine cvk (q := IntKind.i8.wrap ((gv b 0).toNat : Int)) Tryz.underlying199 ⟨_, Tryz.underlying5⟩ rfl rfl rfl rfl ?_
    refine shrk (q := Int.fdiv (IntKind.i8.wrap ((gv b 0).toNat : Int)) (2 ^ 7)) (m := 7) (by decide) rfl rfl rfl rfl rfl ?_
    refine cvu8 Tryz.underlying5 ⟨_, Tryz.underlying199⟩ rfl rfl rfl ?_
    refine and8 (q := (135 : UInt8)) rfl rfl rfl rfl ?_
    refine xor8 rfl rfl rfl rfl ?_
    refine ian (15) (15) Tryz.underlying22 sz5 rfl rfl rfl rfl (by omega) (by omega) (by omega) ?_
    refine st 0 sz5 hS rfl rfl rfl rfl rfl rfl (by rw [BV_size]; omega) (BV_set _ _ ((gv (Vector.ofFn fun i => dblf b i.val : V8 16) 15) ^^^ ((toU8 ((Int.fdiv (IntKind.i8.wrap ((gv b 0).toNat : Int)) (2 ^ 7)))) &&& 135) : UInt8)) ?_
    intro w hS
    refine wq_then ?_
    refine rg ?_
    refine la 0 ag22 hS rfl rfl rfl rfl (BV_size _) ?_
    refine sa 1 ag22 hS rfl rfl rfl (BV_one _) rfl (BV_size _) (BV_size _) ?_
    intro w hS
    refine wq_then ?_
    refine wc_ret ?_
    refine fin1 (v := .agg (BV ((Vector.ofFn fun i => dblf b i.val : V8 16).setIfInBounds 15 ((gv (Vector.ofFn fun i => dblf b i.val : V8 16) 15) ^^^ ((toU8 ((Int.fdiv (IntKind.i8.wrap ((gv b 0).toNat : Int)) (2 ^ 7)))) &&& 135))))) rfl ⟨_, rfl, lv_a ag22 (hS.get 1 rfl) (BV_size _)⟩ ?_
    exact ⟨rfl, hS.drop⟩
end Go.Proofs.XS

/- walks -/
namespace Go.Proofs.XS
open Go Go.X Go.Proofs
set_option maxRecDepth 100000 in
theorem sp_table_New (c E : Nat) (key : V8 16) (w0 : World) (hC : w0.heap[c]? = some (.cells (cipherC key) E)) : Calls Tryz.prog 26 #[Ptr c 0] w0 (RetS w0 (fun v L => ∃ t, v = Ptr t 0 ∧ L = [(t, .cells (tableC c key) 139)])) := by
  refine enter (args := [Ptr c 0]) Tryz.func26 rfl rfl ?_
  refine startw fun w hS => ?_
  refine rg ?_
  refine asg rfl rfl rfl ?_
  refine wq_then ?_
  refine rg ?_
  refine mv rfl rfl rfl ?_
  refine mv rfl rfl rfl ?_
  refine bd (cs := BV (Vector.replicate 16 0)) rfl rfl rfl (by kernel_rfl) ?_
  refine cv cf71 hS rfl rfl rfl rfl rfl (sp_fast_Cipher_Encrypt (c) (_) (key) ((Vector.replicate 16 0)) _ (hS.old hC List.not_mem_nil)) ?_
  intro w hS
  refine bd (cs := #[Ptr c 0] ++ (BV (enc key (Vector.replicate 16 0)) ++ (BV (Vector.replicate 16 0) ++ BV (Vector.replicate 1024 0)))) rfl rfl rfl ((bu139 _).trans (fill_1 (off := 0) rfl rfl (le_sz (a := 1057) (cat_size (a := 1) (b := 1056) rfl (cat_size (a := 16) (b := 1040) (BV_size _) (cat_size (a := 16) (b := 1024) (BV_size _) (BV_size _)))) (by omega)) (cat_sl (a := 1) rfl (by omega) rfl) <| fill_w (off := 1) (size := 16) rfl (BV_size _) (le_sz (a := 1057) (cat_size (a := 1) (b := 1056) rfl (cat_size (a := 16) (b := 1040) (BV_size _) (cat_size (a := 16) (b := 1024) (BV_size _) (BV_size _)))) (by omega)) (cat_pr (a := 1) (o' := 0) rfl (by omega) (ple2 (BV_size _) (cat_size (a := 16) (b := 1040) (BV_size _) (cat_size (a := 16) (b := 1024) (BV_size _) (BV_size _))) (by omega)) (cat_pl (a := 16) (BV_size _) (ple (BV_size _) (by omega)) (put_all (BV_size _) (BV_size _)))) <| rfl)) ?_
  refine bxa hS rfl rfl rfl ?_
  intro b11 w hb11 hS
  refine asg rfl rfl rfl ?_
  refine wq_then ?_
  refine rg ?_
  refine mv rfl rfl rfl ?_
  refine mv rfl rfl rfl ?_
  refine nilp rfl rfl rfl ?_
  refine fan (1) (1) Tryz.underlying139 rfl sz22 (by decide) rfl rfl rfl rfl (by omega) ?_
  refine lp (u := .agg (BV (enc key (Vector.replicate 16 0)))) 0 ag22 hS rfl rfl rfl rfl (le_sz (a := 1057) (cat_size (a := 1) (b := 1056) rfl (cat_size (a := 16) (b := 1040) (BV_size _) (cat_size (a := 16) (b := 1024) (BV_size _) (BV_size _)))) (by omega)) (cat_xr (a := 1) (o' := 0) rfl (by omega) (cat_xl (a := 16) (BV_size _) (by omega) (ext_all (BV_size _)))) rfl ?_
  refine cv cf72 hS rfl rfl rfl rfl rfl (sp_block_Double ((enc key (Vector.replicate 16 0))) _) ?_
  intro w hS
  refine nilp rfl rfl rfl ?_
  refine fan (17) (17) Tryz.underlying139 rfl sz22 (by decide) rfl rfl rfl rfl (by omega) ?_
  refine spp (cs' := #[Ptr c 0] ++ (BV (enc key (Vector.replicate 16 0)) ++ (BV (dblB (enc key (Vector.replicate 16 0))) ++ BV (Vector.replicate 1024 0)))) 0 ag22 hS rfl rfl rfl (BV_one _) rfl (le_sz (a := 1057) (cat_size (a := 1) (b := 1056) rfl (cat_size (a := 16) (b := 1040) (BV_size _) (cat_size (a := 16) (b := 1024) (BV_size _) (BV_size _)))) (by omega)) (BV_size _) (cat_pr (a := 1) (o' := 16) rfl (by omega) (ple2 (BV_size _) (cat_size (a := 16) (b := 1040) (BV_size _) (cat_size (a := 16) (b := 1024) (BV_size _) (BV_size _))) (by omega)) (cat_pr (a := 16) (o' := 0) (BV_size _) (by omega) (ple2 (BV_size _) (cat_size (a := 16) (b := 1024) (BV_size _) (BV_size _)) (by omega)) (cat_pl (a := 16) (BV_size _) (ple (BV_size _) (by omega)) (put_all (BV_size _) (BV_size _))))) ?_
  intro w hS
  refine wq_then ?_
  refine rg ?_
  refine mv rfl rfl rfl ?_
  refine nilp rfl rfl rfl ?_
  refine fan (17) (17) Tryz.underlying139 rfl sz22 (by decide) rfl rfl rfl rfl (by omega) ?_
  refine lp (u := .agg (BV (dblB (enc key (Vector.replicate 16 0))))) 0 ag22 hS rfl rfl rfl rfl (le_sz (a := 1057) (cat_size (a := 1) (b := 1056) rfl (cat_size (a := 16) (b := 1040) (BV_size _) (cat_size (a := 16) (b := 1024) (BV_size _) (BV_size _)))) (by omega)) (cat_xr (a := 1) (o' := 16) rfl (by omega) (cat_xr (a := 16) (o' := 0) (BV_size _) (by omega) (cat_xl (a := 16) (BV_size _) (by omega) (ext_all (BV_size _))))) rfl ?_
  refine ala zr22 hS rfl rfl ?_
  intro b4 w hb4 hS
  refine sa 0 ag22 hS rfl rfl rfl (BV_one _) rfl (BV_size _) (BV_size _) ?_
  intro w hS
  refine wq_then ?_
  refine wc_seq ?_
  refine rg ?_
  refine mv rfl rfl rfl ?_
  refine wq_then ?_
  refine wc_block ?_
  refine wc_loop (σ := Nat) (fun k => [(2, (.pointer none)), (3, Ptr b11 0), (4, Ptr b4 0), (24, I ((k : Int)))])
    (fun k w => (k ≤ 64) ∧ St w0 [] [(b4, .cells (BV (lastL key k)) 22), (b11, .cells (#[Ptr c 0] ++ (BV (star key) ++ (BV (lastL key 0) ++ BV (blkL key k)))) 139)] w) (fun k => 64 - k) 0 ⟨rfl, rfl, rfl, rfl, trivial⟩ ⟨by omega, hS⟩ ?_
  rintro k w ⟨hk, hS⟩
  refine rg ?_
  refine lss rfl rfl rfl rfl ?_
  refine wq_then ?_
  refine wc_seq ?_
  refine wc_if rfl (fun hc1 => ?_) (fun hc1 => ?_)
  · skip
    try simp only [SB] at hc1
    refine wc_skip ?_
    refine wq_then ?_
    refine wc_seq ?_
    refine wc_block ?_
    refine rg ?_
    refine mv rfl rfl rfl ?_
    refine asg rfl rfl rfl ?_
    refine wq_then ?_
    refine rg ?_
    refine la 0 ag22 hS rfl rfl rfl rfl (BV_size _) ?_
    refine cv cf72 hS rfl rfl rfl rfl rfl (sp_block_Double ((lastL key k)) _) ?_
    intro w hS
    refine sa 0 ag22 hS rfl rfl rfl (BV_one _) rfl (BV_size _) (BV_size _) ?_
    intro w hS
    refine wq_then ?_
    refine wc_draw mo 7 (fun w => St w0 [] [(b4, .cells (BV (dblB (lastL key k))) 22)] w) ?_
    have hS := hS.drew
    refine dq 0 rfl (by kernel_rfl) (by kernel_rfl) (by kernel_rfl) rfl rfl (fun w hS => mv rfl rfl rfl ⟨rfl, rfl⟩) (hS.sublist (.cons_cons _ (.cons _ (List.nil_sublist _)))) ?_
    refine dq 1 rfl (by kernel_rfl) (by kernel_rfl) (by kernel_rfl) rfl rfl (fun w hS => mv rfl rfl rfl ⟨rfl, rfl⟩) (hS.sublist (.cons_cons _ (.cons _ (List.nil_sublist _)))) ?_
    refine dq 2 rfl (by kernel_rfl) (by kernel_rfl) (by kernel_rfl) rfl rfl (fun w hS => la 0 ag22 hS rfl rfl rfl rfl (BV_size _) ⟨rfl, rfl⟩) (hS.sublist (.cons_cons _ (.cons _ (List.nil_sublist _)))) ?_
    refine dq 3 rfl (by kernel_rfl) (by kernel_rfl) (by kernel_rfl) rfl rfl (fun w hS => nilp rfl rfl rfl ⟨rfl, rfl⟩) (hS.sublist (.cons_cons _ (.cons _ (List.nil_sublist _)))) ?_
    refine dq 4 rfl (by kernel_rfl) (by kernel_rfl) (by kernel_rfl) rfl rfl (fun w hS => fan (33) (33) Tryz.underlying139 rfl sz137 (by decide) rfl rfl rfl rfl (by omega) ⟨rfl, rfl⟩) (hS.sublist (.cons_cons _ (.cons _ (List.nil_sublist _)))) ?_
    refine dq 5 rfl (by kernel_rfl) (by kernel_rfl) (by kernel_rfl) rfl rfl (fun w hS => ian (k) (33 + k * 16) Tryz.underlying137 sz22 rfl rfl rfl rfl (by omega) (by omega) (by omega) ⟨rfl, rfl⟩) (hS.sublist (.cons_cons _ (.cons _ (List.nil_sublist _)))) ?_
    refine dl 6 rfl (by kernel_rfl) ?_
    refine spp (cs' := #[Ptr c 0] ++ (BV (star key) ++ (BV (lastL key 0) ++ BV (put8 (blkL key k) (k * 16) (dblB (lastL key k)))))) 1 ag22 hS rfl rfl rfl (BV_one _) rfl (le_sz (a := 1057) (cat_size (a := 1) (b := 1056) rfl (cat_size (a := 16) (b := 1040) (BV_size _) (cat_size (a := 16) (b := 1024) (BV_size _) (BV_size _)))) (by omega)) (BV_size _) (cat_pr (a := 1) (o' := 32 + k * 16) rfl (by omega) (ple2 (BV_size _) (cat_size (a := 16) (b := 1040) (BV_size _) (cat_size (a := 16) (b := 1024) (BV_size _) (BV_size _))) (by omega)) (cat_pr (a := 16) (o' := 16 + k * 16) (BV_size _) (by omega) (ple2 (BV_size _) (cat_size (a := 16) (b := 1024) (BV_size _) (BV_size _)) (by omega)) (cat_pr (a := 16) (o' := k * 16) (BV_size _) (by omega) (ple2 (BV_size _) (BV_size _) (by omega)) (BV_put _ _ _ (by omega))))) ?_
    intro w hS
    refine ⟨fun _ => (hS.sublist (.cons_cons _ (.cons _ (List.nil_sublist _)))), ?_⟩
    refine de (by kernel_rfl) ?_
    refine q_block_norm ?_
    refine wq_then ?_
    refine wc_region ?_
    refine addi (by omega) (by omega) rfl rfl rfl rfl ?_
    refine mv rfl rfl rfl ?_
    refine again_q (k + 1) ⟨rfl, rfl, rfl, lkI rfl (by first | omega | rfl), trivial⟩ ⟨by omega, hS⟩ (by omega)
  · skip
    try simp only [SB] at hc1
    refine wc_exit ?_
    refine q_then_exit ?_
    refine q_then_exit ?_
    refine q_block_hit ?_
    refine wq_then ?_
    refine rg ?_
    refine mv rfl rfl rfl ?_
    refine asg rfl rfl rfl ?_
    refine wq_then ?_
    refine wc_ret ?_
    refine fin1 (v := Ptr b11 0) rfl rfl ?_
    have hk : k = 64 := by omega
    subst hk
    exact ⟨_, _, rfl, ⟨b11, rfl, rfl⟩, hS.sublist (.cons _ (.cons_cons _ (List.nil_sublist _)))⟩
end Go.Proofs.XS

/- walks -/
namespace Go.Proofs.XS
open Go Go.X Go.Proofs
set_option maxRecDepth 100000 in
theorem sp_counter_New (x : UInt64) (w0 : World) : Calls Tryz.prog 28 #[U64 x] w0 (RetS w0 (fun v L => ∃ b, v = Ptr b 0 ∧ L = [(b, .cells #[U64 (mnU x 9223372036854775807), U64 0, .bool false] 151)])) := by
  refine enter (args := [U64 x]) Tryz.func28 rfl rfl ?_
  refine startw fun w hS => ?_
  refine rg ?_
  refine asg rfl rfl rfl ?_
  refine wq_then ?_
  refine rg ?_
  refine mv rfl rfl rfl ?_
  refine minu (q := (9223372036854775807 : UInt64)) rfl rfl rfl rfl ?_
  refine bd (cs := #[U64 (mnU x 9223372036854775807), U64 (0), .bool (false)]) rfl rfl rfl (by kernel_rfl) ?_
  refine bxa hS rfl rfl rfl ?_
  intro b6 w hb6 hS
  refine asg rfl rfl rfl ?_
  refine wq_then ?_
  refine wc_ret ?_
  refine fin1 (v := Ptr b6 0) rfl rfl ?_
  exact ⟨_, _, rfl, ⟨_, rfl, rfl⟩, hS⟩
end Go.Proofs.XS

/- walks -/
namespace Go.Proofs.XS
open Go Go.X Go.Proofs
set_option maxRecDepth 100000 in
theorem sp_filter_New (w0 : World) : Calls Tryz.prog 29 #[] w0 (RetS w0 (fun v L => ∃ b, v = Ptr b 0 ∧ L = [(b, .cells #[I 0, I 0, U64 0] 155)])) := by
  refine enter (args := []) Tryz.func29 rfl rfl ?_
  refine startw fun w hS => ?_
  refine rg ?_
  refine asg rfl rfl rfl ?_
  refine wq_then ?_
  refine rg ?_
  refine bd (cs := #[I (0), I (0), U64 (0)]) rfl rfl rfl (by kernel_rfl) ?_
  refine bxa hS rfl rfl rfl ?_
  intro b2 w hb2 hS
  refine asg rfl rfl rfl ?_
  refine wq_then ?_
  refine wc_ret ?_
  refine fin1 (v := Ptr b2 0) rfl rfl ?_
  exact ⟨_, _, rfl, ⟨_, rfl, rfl⟩, hS⟩
end Go.Proofs.XS

/- walks -/
namespace Go.Proofs.XS
open Go Go.X Go.Proofs
set_option maxRecDepth 100000 in
theorem sp_echo_New (w0 : World) : Calls Tryz.prog 30 #[] w0 (RetS w0 (fun v L => ∃ b, v = Ptr b 0 ∧ L = [(b, .cells #[.pointer none] 158)])) := by
  refine enter (args := []) Tryz.func30 rfl rfl ?_
  refine startw fun w hS => ?_
  refine rg ?_
  refine asg rfl rfl rfl ?_
  refine wq_then ?_
  refine rg ?_
  refine bd (cs := #[(.pointer none)]) rfl rfl rfl (by kernel_rfl) ?_
  refine bxa hS rfl rfl rfl ?_
  intro b2 w hb2 hS
  refine asg rfl rfl rfl ?_
  refine wq_then ?_
  refine wc_ret ?_
  refine fin1 (v := Ptr b2 0) rfl rfl ?_
  exact ⟨_, _, rfl, ⟨_, rfl, rfl⟩, hS⟩
end Go.Proofs.XS

/- walks -/
namespace Go.Proofs.XS
open Go Go.X Go.Proofs
set_option maxRecDepth 1000000 in
theorem cf104 : Callable Tryz.prog 104 := ⟨_, Tryz.func104, by kernel_rfl, rfl⟩
end Go.Proofs.XS

/- walks -/
namespace Go.Proofs.XS
open Go Go.X Go.Proofs
set_option maxRecDepth 1000000 in
theorem cf194 : Callable Tryz.prog 194 := ⟨_, Tryz.func194, by kernel_rfl, rfl⟩
set_option maxRecDepth 1000000 in
theorem cf193 : Callable Tryz.prog 193 := ⟨_, Tryz.func193, by kernel_rfl, rfl⟩
set_option maxRecDepth 1000000 in
theorem cf163 : Callable Tryz.prog 163 := ⟨_, Tryz.func163, by kernel_rfl, rfl⟩
set_option maxRecDepth 1000000 in
theorem cf127 : Callable Tryz.prog 127 := ⟨_, Tryz.func127, by kernel_rfl, rfl⟩
set_option maxRecDepth 1000000 in
theorem cf102 : Callable Tryz.prog 102 := ⟨_, Tryz.func102, by kernel_rfl, rfl⟩
end Go.Proofs.XS

/-
  DERIVED: THE SHELF's CONTRACTS AT THIS DUMP, IN PLAIN WORDS (tools/lay-plain.mjs out of 'TryzShelf.lean', which tools/lay-shelf.mjs wrote): THE SAME DECLARATIONS UNDER THE SAME NAMES: 'import', 'namespace', 'open', 'def', 'theorem' AND NOTHING ELSE: no command of the shelf's: FOR A HAND-IN. Each laying: the table of numbers ('.._ren') and one theorem, a field a fact of the dump's own or the kernel's comparison; each contract: ONE APPLICATION.
-/
namespace Go.Proofs
open Go.Shelf
def Tryz.lays119_ren : Go.Shelf.Ren := ⟨fun | 119 => 194 | n => n, fun | 21 => 21 | 4 => 4 | n => n, fun | n => n⟩
theorem Tryz.lays119 : Go.Proofs.Lays.n119 Tryz.prog Tryz.lays119_ren := {
  mixed := by kernel_rfl
  f119 := Tryz.func194.trans (congrArg some (by kernel_rfl))
  t4 := Tryz.underlying4
  a4 := Tryz.isAgg4
  z4 := Tryz.sizeOf4
  v4 := Tryz.zeroValue4
  t21 := Tryz.underlying21
  a21 := Tryz.isAgg21
  z21 := Tryz.sizeOf21
  v21 := Tryz.zeroValue21 }
/-- utf8.ValidRune: "ValidRune reports whether r can be legally encoded as UTF-8. Code points that are out of range or a surrogate half are illegal.": IT RETURNS 'Lib.validRune r'; the world is as it was. (LAID: no walk: one application.) -/
theorem Tryz.utf8_ValidRune (r : Int) (w : World) :
    Calls Tryz.prog 194 #[.int .i32 r] w fun e w' => e = .returned (.bool (Lib.validRune r)) ∧ w' = w := Any.utf8_ValidRune Tryz.lays119 r w
def Tryz.lays137_ren : Go.Shelf.Ren := ⟨fun | 137 => 193 | 217 => 203 | 266 => 206 | n => n, fun | 9 => 9 | 5 => 5 | 3 => 3 | n => n, fun | n => n⟩
theorem Tryz.lays137 : Go.Proofs.Lays.n137 Tryz.prog Tryz.lays137_ren := {
  mixed := by kernel_rfl
  f137 := Tryz.func193.trans (congrArg some (by kernel_rfl))
  f217 := Tryz.func203.trans (congrArg some (by kernel_rfl))
  f266 := Tryz.func206.trans (congrArg some (by kernel_rfl))
  t3 := Tryz.underlying3
  a3 := Tryz.isAgg3
  z3 := Tryz.sizeOf3
  v3 := Tryz.zeroValue3
  t5 := Tryz.underlying5
  a5 := Tryz.isAgg5
  z5 := Tryz.sizeOf5
  v5 := Tryz.zeroValue5
  t9 := Tryz.underlying9
  a9 := Tryz.isAgg9
  z9 := Tryz.sizeOf9
  v9 := Tryz.zeroValue9 }
open Go.RowKit in
/-- strings.IndexByte: "IndexByte returns the index of the first instance of c in s, or -1 if c is not present in s.": IT RETURNS 'Lib.indexByte s c'; the world is as it was. (LAID: no walk: one application.) -/
theorem Tryz.strings_IndexByte (s : ByteArray) (c : Int) (w : World) :
    Calls Tryz.prog 193 #[.string s, .int .u8 c] w fun e w' => e = .returned (.int .i64 (Lib.indexByte s.data.toList c.toNat.toUInt8)) ∧ w' = w := Any.strings_IndexByte Tryz.lays137 s c w
def Tryz.lays217_ren : Go.Shelf.Ren := ⟨fun | 217 => 203 | 266 => 206 | n => n, fun | 9 => 9 | 5 => 5 | 3 => 3 | n => n, fun | n => n⟩
theorem Tryz.lays217 : Go.Proofs.Lays.n217 Tryz.prog Tryz.lays217_ren := {
  mixed := by kernel_rfl
  f217 := Tryz.func203.trans (congrArg some (by kernel_rfl))
  f266 := Tryz.func206.trans (congrArg some (by kernel_rfl))
  t3 := Tryz.underlying3
  a3 := Tryz.isAgg3
  z3 := Tryz.sizeOf3
  v3 := Tryz.zeroValue3
  t5 := Tryz.underlying5
  a5 := Tryz.isAgg5
  z5 := Tryz.sizeOf5
  v5 := Tryz.zeroValue5
  t9 := Tryz.underlying9
  a9 := Tryz.isAgg9
  z9 := Tryz.sizeOf9
  v9 := Tryz.zeroValue9 }
open Go.RowKit Go.Lib in
/-- internal/stringslite.IndexByte (what strings.IndexByte calls): IT RETURNS 'Lib.indexByte s c'; the world is as it was. (LAID: no walk: one application.) -/
theorem Tryz.stringslite_IndexByte (s : ByteArray) (c : Int) (w : World) :
    Calls Tryz.prog 203 #[.string s, .int .u8 c] w fun e w' => e = .returned (.int .i64 (Lib.indexByte s.data.toList c.toNat.toUInt8)) ∧ w' = w := Any.stringslite_IndexByte Tryz.lays217 s c w
def Tryz.lays224_ren : Go.Shelf.Ren := ⟨fun | 224 => 195 | n => n, fun | 3 => 3 | n => n, fun | n => n⟩
theorem Tryz.lays224 : Go.Proofs.Lays.n224 Tryz.prog Tryz.lays224_ren := {
  mixed := by kernel_rfl
  f224 := Tryz.func195.trans (congrArg some (by kernel_rfl))
  t3 := Tryz.underlying3
  a3 := Tryz.isAgg3
  z3 := Tryz.sizeOf3
  v3 := Tryz.zeroValue3 }
open Go.RowKit Go.Lib in
/-- internal/bytealg.Cutover: "Cutover reports the number of failures of IndexByte we should tolerate before switching over to Index. n is the number of bytes processed so far.": on amd64: (n + 16) / 8. (LAID: no walk: one application.) -/
theorem Tryz.bytealg_Cutover (n : Int) (h0 : 0 ≤ n) (h1 : n < 4611686018427387904) (w : World) :
    Calls Tryz.prog 195 #[.int .i64 n] w fun e w' => e = .returned (.int .i64 ((n + 16) / 8)) ∧ w' = w := Any.bytealg_Cutover Tryz.lays224 n h0 h1 w
def Tryz.lays315_ren : Go.Shelf.Ren := ⟨fun | 315 => 164 | n => n, fun | 9 => 9 | 40 => 192 | 4 => 4 | 3 => 3 | 0 => 0 | 21 => 21 | n => n, fun | n => n⟩
theorem Tryz.lays315 : Go.Proofs.Lays.n315 Tryz.prog Tryz.lays315_ren := {
  mixed := by kernel_rfl
  f315 := Tryz.func164.trans (congrArg some (by kernel_rfl))
  t0 := Tryz.underlying0
  a0 := Tryz.isAgg0
  z0 := Tryz.sizeOf0
  v0 := Tryz.zeroValue0
  t3 := Tryz.underlying3
  a3 := Tryz.isAgg3
  z3 := Tryz.sizeOf3
  v3 := Tryz.zeroValue3
  t4 := Tryz.underlying4
  a4 := Tryz.isAgg4
  z4 := Tryz.sizeOf4
  v4 := Tryz.zeroValue4
  t9 := Tryz.underlying9
  a9 := Tryz.isAgg9
  z9 := Tryz.sizeOf9
  v9 := Tryz.zeroValue9
  t21 := Tryz.underlying21
  a21 := Tryz.isAgg21
  z21 := Tryz.sizeOf21
  v21 := Tryz.zeroValue21
  t40 := Tryz.underlying192
  a40 := Tryz.isAgg192
  z40 := Tryz.sizeOf192
  v40 := Tryz.zeroValue192 }
open Go.RowKit Go.Lib in
theorem Tryz.strings_indexFunc (g : Nat) (lb : Array Value) (eg : ∀ args w, (callFunc g args).run Tryz.prog w = .ok (.enter g args) w) (p : Nat → Bool) (truth : Bool) (s : ByteArray) (w : World) (hp : PredAt Tryz.prog g lb encR p w) :
    Calls Tryz.prog 164 #[.string s, .func (.func g) #[] lb, .bool truth] w fun e w' => e = .returned (.int .i64 (Lib.idxFunc p truth s)) ∧ Below w.heap.size w w' := Any.strings_indexFunc Tryz.lays315 g lb eg p truth s w hp
def Tryz.laysGw15_ren : Go.Shelf.Ren := ⟨fun | 15 => 128 | 20 => 164 | n => n, fun | 9 => 9 | 23 => 192 | 3 => 3 | 4 => 4 | 0 => 0 | 21 => 21 | n => n, fun | n => n⟩
theorem Tryz.laysGw15 : Go.Proofs.LaysGw.n15 Tryz.prog Tryz.laysGw15_ren := {
  mixed := by kernel_rfl
  f15 := Tryz.func128.trans (congrArg some (by kernel_rfl))
  f20 := Tryz.func164.trans (congrArg some (by kernel_rfl))
  t0 := Tryz.underlying0
  a0 := Tryz.isAgg0
  z0 := Tryz.sizeOf0
  v0 := Tryz.zeroValue0
  i0 := by kernel_rfl
  t3 := Tryz.underlying3
  a3 := Tryz.isAgg3
  z3 := Tryz.sizeOf3
  v3 := Tryz.zeroValue3
  i3 := by kernel_rfl
  t4 := Tryz.underlying4
  a4 := Tryz.isAgg4
  z4 := Tryz.sizeOf4
  v4 := Tryz.zeroValue4
  i4 := by kernel_rfl
  t9 := Tryz.underlying9
  a9 := Tryz.isAgg9
  z9 := Tryz.sizeOf9
  v9 := Tryz.zeroValue9
  i9 := by kernel_rfl
  t21 := Tryz.underlying21
  a21 := Tryz.isAgg21
  z21 := Tryz.sizeOf21
  v21 := Tryz.zeroValue21
  i21 := by kernel_rfl
  t23 := Tryz.underlying192
  a23 := Tryz.isAgg192
  z23 := Tryz.sizeOf192
  v23 := Tryz.zeroValue192
  i23 := by kernel_rfl }
open Go.RowKit Go.Lib in
theorem Tryz.strings_IndexFunc (g : Nat) (lb : Array Value) (eg : ∀ args w, (callFunc g args).run Tryz.prog w = .ok (.enter g args) w) (p : Nat → Bool) (s : ByteArray) (w : World) (hp : PredAt Tryz.prog g lb encR p w) :
    Calls Tryz.prog 128 #[.string s, .func (.func g) #[] lb] w fun e w' => e = .returned (.int .i64 (Lib.idxFunc p true s)) ∧ Below w.heap.size w w' := Any.strings_IndexFunc Tryz.laysGw15 g lb eg p s w hp
def Tryz.laysGw17_ren : Go.Shelf.Ren := ⟨fun | 17 => 104 | 15 => 128 | 20 => 164 | n => n, fun | 9 => 9 | 23 => 192 | 4 => 4 | 3 => 3 | 0 => 0 | 21 => 21 | n => n, fun | n => n⟩
theorem Tryz.laysGw17 : Go.Proofs.LaysGw.n17 Tryz.prog Tryz.laysGw17_ren := {
  mixed := by kernel_rfl
  f15 := Tryz.func128.trans (congrArg some (by kernel_rfl))
  f17 := Tryz.func104.trans (congrArg some (by kernel_rfl))
  f20 := Tryz.func164.trans (congrArg some (by kernel_rfl))
  t0 := Tryz.underlying0
  a0 := Tryz.isAgg0
  z0 := Tryz.sizeOf0
  v0 := Tryz.zeroValue0
  i0 := by kernel_rfl
  t3 := Tryz.underlying3
  a3 := Tryz.isAgg3
  z3 := Tryz.sizeOf3
  v3 := Tryz.zeroValue3
  i3 := by kernel_rfl
  t4 := Tryz.underlying4
  a4 := Tryz.isAgg4
  z4 := Tryz.sizeOf4
  v4 := Tryz.zeroValue4
  i4 := by kernel_rfl
  t9 := Tryz.underlying9
  a9 := Tryz.isAgg9
  z9 := Tryz.sizeOf9
  v9 := Tryz.zeroValue9
  i9 := by kernel_rfl
  t21 := Tryz.underlying21
  a21 := Tryz.isAgg21
  z21 := Tryz.sizeOf21
  v21 := Tryz.zeroValue21
  i21 := by kernel_rfl
  t23 := Tryz.underlying192
  a23 := Tryz.isAgg192
  z23 := Tryz.sizeOf192
  v23 := Tryz.zeroValue192
  i23 := by kernel_rfl }
open Go.RowKit Go.Lib in
theorem Tryz.strings_ContainsFunc (g : Nat) (lb : Array Value) (eg : ∀ args w, (callFunc g args).run Tryz.prog w = .ok (.enter g args) w) (p : Nat → Bool) (s : ByteArray) (w : World) (hp : PredAt Tryz.prog g lb encR p w) :
    Calls Tryz.prog 104 #[.string s, .func (.func g) #[] lb] w fun e w' => e = .returned (.bool (decide (0 ≤ Lib.idxFunc p true s))) ∧ Below w.heap.size w w' := Any.strings_ContainsFunc Tryz.laysGw17 g lb eg p s w hp
def Tryz.lays152_ren : Go.Shelf.Ren := ⟨fun | 152 => 163 | 137 => 193 | 119 => 194 | 224 => 195 | 225 => 196 | 217 => 203 | 266 => 206 | n => n, fun | 9 => 9 | 21 => 21 | 3 => 3 | 4 => 4 | 5 => 5 | 0 => 0 | 46 => 171 | n => n, fun | n => n⟩
theorem Tryz.lays152 : Go.Proofs.Lays.n152 Tryz.prog Tryz.lays152_ren := {
  mixed := by kernel_rfl
  f119 := Tryz.func194.trans (congrArg some (by kernel_rfl))
  f137 := Tryz.func193.trans (congrArg some (by kernel_rfl))
  f152 := Tryz.func163.trans (congrArg some (by kernel_rfl))
  f217 := Tryz.func203.trans (congrArg some (by kernel_rfl))
  f224 := Tryz.func195.trans (congrArg some (by kernel_rfl))
  f225 := Tryz.func196.trans (congrArg some (by kernel_rfl))
  f266 := Tryz.func206.trans (congrArg some (by kernel_rfl))
  t0 := Tryz.underlying0
  a0 := Tryz.isAgg0
  z0 := Tryz.sizeOf0
  v0 := Tryz.zeroValue0
  t3 := Tryz.underlying3
  a3 := Tryz.isAgg3
  z3 := Tryz.sizeOf3
  v3 := Tryz.zeroValue3
  t4 := Tryz.underlying4
  a4 := Tryz.isAgg4
  z4 := Tryz.sizeOf4
  v4 := Tryz.zeroValue4
  t5 := Tryz.underlying5
  a5 := Tryz.isAgg5
  z5 := Tryz.sizeOf5
  v5 := Tryz.zeroValue5
  t9 := Tryz.underlying9
  a9 := Tryz.isAgg9
  z9 := Tryz.sizeOf9
  v9 := Tryz.zeroValue9
  t21 := Tryz.underlying21
  a21 := Tryz.isAgg21
  z21 := Tryz.sizeOf21
  v21 := Tryz.zeroValue21
  t46 := Tryz.underlying171
  a46 := Tryz.isAgg171
  z46 := Tryz.sizeOf171
  v46 := Tryz.zeroValue171 }
open Go.RowKit Go.Lib in
theorem Tryz.strings_IndexRune_ascii (s : ByteArray) (r : Int) (w : World) (h0 : 0 ≤ r) (h1 : r < 128) :
    Calls Tryz.prog 163 #[.string s, .int .i32 r] w fun e w' => e = .returned (.int .i64 (Lib.indexByte s.data.toList r.toNat.toUInt8)) ∧ w' = w := Any.strings_IndexRune_ascii Tryz.lays152 s r w h0 h1
def Tryz.lays151_ren : Go.Shelf.Ren := ⟨fun | 151 => 127 | 152 => 163 | 137 => 193 | 119 => 194 | 224 => 195 | 225 => 196 | 217 => 203 | 266 => 206 | n => n, fun | 9 => 9 | 21 => 21 | 4 => 4 | 3 => 3 | 5 => 5 | 0 => 0 | 46 => 171 | n => n, fun | n => n⟩
theorem Tryz.lays151 : Go.Proofs.Lays.n151 Tryz.prog Tryz.lays151_ren := {
  mixed := by kernel_rfl
  f119 := Tryz.func194.trans (congrArg some (by kernel_rfl))
  f137 := Tryz.func193.trans (congrArg some (by kernel_rfl))
  f151 := Tryz.func127.trans (congrArg some (by kernel_rfl))
  f152 := Tryz.func163.trans (congrArg some (by kernel_rfl))
  f217 := Tryz.func203.trans (congrArg some (by kernel_rfl))
  f224 := Tryz.func195.trans (congrArg some (by kernel_rfl))
  f225 := Tryz.func196.trans (congrArg some (by kernel_rfl))
  f266 := Tryz.func206.trans (congrArg some (by kernel_rfl))
  t0 := Tryz.underlying0
  a0 := Tryz.isAgg0
  z0 := Tryz.sizeOf0
  v0 := Tryz.zeroValue0
  t3 := Tryz.underlying3
  a3 := Tryz.isAgg3
  z3 := Tryz.sizeOf3
  v3 := Tryz.zeroValue3
  t4 := Tryz.underlying4
  a4 := Tryz.isAgg4
  z4 := Tryz.sizeOf4
  v4 := Tryz.zeroValue4
  t5 := Tryz.underlying5
  a5 := Tryz.isAgg5
  z5 := Tryz.sizeOf5
  v5 := Tryz.zeroValue5
  t9 := Tryz.underlying9
  a9 := Tryz.isAgg9
  z9 := Tryz.sizeOf9
  v9 := Tryz.zeroValue9
  t21 := Tryz.underlying21
  a21 := Tryz.isAgg21
  z21 := Tryz.sizeOf21
  v21 := Tryz.zeroValue21
  t46 := Tryz.underlying171
  a46 := Tryz.isAgg171
  z46 := Tryz.sizeOf171
  v46 := Tryz.zeroValue171 }
open Go.RowKit Go.Lib in
theorem Tryz.strings_ContainsRune_ascii (s : ByteArray) (r : Int) (w : World) (h0 : 0 ≤ r) (h1 : r < 128) :
    Calls Tryz.prog 127 #[.string s, .int .i32 r] w fun e w' => e = .returned (.bool (decide (0 ≤ Lib.indexByte s.data.toList r.toNat.toUInt8))) ∧ w' = w := Any.strings_ContainsRune_ascii Tryz.lays151 s r w h0 h1
open Go.RowKit Go.Lib in
theorem Tryz.strings_indexFunc_grows (g : Nat) (lb : Array Value) (eg : ∀ args w, (callFunc g args).run Tryz.prog w = .ok (.enter g args) w) (p : Nat → Bool) (truth : Bool) (s : ByteArray) (w : World) (hp : PredGrows Tryz.prog g lb p w) :
    Calls Tryz.prog 164 #[.string s, .func (.func g) #[] lb, .bool truth] w fun e w' => e = .returned (.int .i64 (Lib.idxFunc p truth s)) ∧ Below w.heap.size w w' := Any.strings_indexFunc_grows Tryz.lays315 g lb eg p truth s w hp
open Go.RowKit Go.Lib in
theorem Tryz.strings_IndexFunc_grows (g : Nat) (lb : Array Value) (eg : ∀ args w, (callFunc g args).run Tryz.prog w = .ok (.enter g args) w) (p : Nat → Bool) (s : ByteArray) (w : World) (hp : PredGrows Tryz.prog g lb p w) :
    Calls Tryz.prog 128 #[.string s, .func (.func g) #[] lb] w fun e w' => e = .returned (.int .i64 (Lib.idxFunc p true s)) ∧ Below w.heap.size w w' := Any.strings_IndexFunc_grows Tryz.laysGw15 g lb eg p s w hp
open Go.RowKit Go.Lib in
theorem Tryz.strings_ContainsFunc_grows (g : Nat) (lb : Array Value) (eg : ∀ args w, (callFunc g args).run Tryz.prog w = .ok (.enter g args) w) (p : Nat → Bool) (s : ByteArray) (w : World) (hp : PredGrows Tryz.prog g lb p w) :
    Calls Tryz.prog 104 #[.string s, .func (.func g) #[] lb] w fun e w' => e = .returned (.bool (decide (0 ≤ Lib.idxFunc p true s))) ∧ Below w.heap.size w w' := Any.strings_ContainsFunc_grows Tryz.laysGw17 g lb eg p s w hp
end Go.Proofs

/- walks -/
namespace Go.Proofs.XS
open Go Go.X Go.Proofs
set_option maxRecDepth 1000000 in
theorem cf103 : Callable Tryz.prog 103 := ⟨_, Tryz.func103, by kernel_rfl, rfl⟩
end Go.Proofs.XS

/- walks -/
namespace Go.Proofs.XS
open Go Go.X Go.Proofs
theorem sp_unicode_utf8_ValidRune (r : Int) (w0 : World) : Calls Tryz.prog 194 #[R32 r] w0 (Ret w0 (.bool (Lib.validRune r))) := ret_same (Tryz.utf8_ValidRune r w0)
end Go.Proofs.XS

/- walks -/
namespace Go.Proofs.XS
open Go Go.X Go.Proofs
theorem sp_strings_IndexByte (s : List UInt8) (c : UInt8) (w0 : World) : Calls Tryz.prog 193 #[Str s, U8 c] w0 (Ret w0 (I (Lib.indexByte s c))) := by
  have h := Tryz.strings_IndexByte ⟨s.toArray⟩ (c.toNat : Int) w0
  have e : ((c.toNat : Int).toNat.toUInt8) = c := by simp
  rw [e] at h; exact ret_same h
end Go.Proofs.XS

/- walks -/
namespace Go.Proofs.XS
open Go Go.X Go.Proofs
set_option maxRecDepth 100000 in
theorem sp_IndexRuneHi (r : Int) (w0 : World) (h0 : 128 ≤ r) : Calls Tryz.prog 163 #[Str [46, 58, 45], R32 r] w0 (Ret w0 (I (-1))) := by
  refine enter (args := [Str [46, 58, 45], R32 r]) Tryz.func163 rfl rfl ?_
  refine startw fun w hS => ?_
  have hd3 : ([46, 58, 45] : List UInt8).length = 3 := rfl
  refine rg ?_
  refine asg rfl rfl rfl ?_
  refine wq_then ?_
  refine wc_block ?_
  refine rg ?_
  refine mv rfl rfl rfl ?_
  refine leq rfl rfl rfl rfl ?_
  refine mv rfl rfl rfl ?_
  refine spl 163 rfl (fun hb1 => ?_) (fun hb1 => ?_)
  · skip
    try simp only [SB] at hb1
    refine mv rfl rfl rfl ?_
    refine lss rfl rfl rfl rfl ?_
    refine pk_t rfl rfl rfl rfl ?_
    refine asg rfl rfl rfl ?_
    refine wq_then ?_
    refine wc_if rfl (fun hc1 => ?_) (fun hc1 => ?_)
    · skip
      try simp only [SB] at hc1
      exfalso; omega
    · skip
      try simp only [SB] at hc1
      refine rg ?_
      refine mv rfl rfl rfl ?_
      refine eqi rfl rfl rfl rfl ?_
      refine asg rfl rfl rfl ?_
      refine wq_then ?_
      refine wc_if rfl (fun hc2 => ?_) (fun hc2 => ?_)
      · skip
        try simp only [SB] at hc2
        refine wc_seq ?_
        refine rg ?_
        refine mv rfl rfl rfl ?_
        refine rgs Tryz.underlying9 hS rfl rfl rfl ?_
        intro b175 w hb175 hS
        refine wq_then ?_
        refine wc_block ?_
        refine wc_loop (σ := Nat) (fun k => [(175, Ptr b175 0)])
          (fun k w => (k ≤ 3) ∧ St w0 [] [(b175, .stringIter ⟨([46, 58, 45] : List UInt8).toArray⟩ k)] w) (fun k => 3 - k) 0 ⟨rfl, trivial⟩ ⟨by omega, hS⟩ ?_
        rintro k w ⟨hk, hS⟩
        refine rg ?_
        by_cases hb2 : k < ([46, 58, 45] : List UInt8).length
        · skip
          refine nxa 0 hS rfl rfl rfl rfl hb2 (dots k (by simpa using hb2)) ?_
          intro w hS
          refine ext rfl rfl rfl rfl ?_
          refine wq_then ?_
          refine wc_seq ?_
          refine wc_if_t rfl ?_
          refine wc_skip ?_
          refine wq_then ?_
          refine wc_block ?_
          refine rg ?_
          refine ext rfl rfl rfl rfl ?_
          refine ext rfl rfl rfl rfl ?_
          refine asg rfl rfl rfl ?_
          refine asg rfl rfl rfl ?_
          refine wq_then ?_
          refine rg ?_
          refine mv rfl rfl rfl ?_
          refine eqi rfl rfl rfl rfl ?_
          refine wq_then ?_
          refine wc_if rfl (fun hc3 => ?_) (fun hc3 => ?_)
          · skip
            try simp only [SB] at hc3
            exfalso; have := dots k (by simpa using ‹k < ([46, 58, 45] : List UInt8).length›); omega
          · skip
            try simp only [SB] at hc3
            refine wc_skip ?_
            refine q_block_norm ?_
            have hlt : k < 3 := by simpa using ‹k < ([46, 58, 45] : List UInt8).length›
            refine again_q (k + 1) ⟨rfl, trivial⟩ ⟨by omega, hS⟩ (by omega)
        · skip
          refine nxz 0 hS rfl rfl rfl rfl hb2 ?_
          refine ext rfl rfl rfl rfl ?_
          refine wq_then ?_
          refine wc_seq ?_
          refine wc_if_f rfl ?_
          refine wc_exit ?_
          refine q_then_exit ?_
          refine q_then_exit ?_
          refine q_block_hit ?_
          refine wq_then ?_
          refine rg ?_
          refine asg rfl rfl rfl ?_
          refine wq_then ?_
          refine wc_ret ?_
          refine q_block_ret ?_
          refine fin1 (v := I (-1)) rfl rfl ?_
          exact ⟨rfl, hS.drop⟩
      · skip
        try simp only [SB] at hc2
        refine rg ?_
        refine mv rfl rfl rfl ?_
        refine cv cf194 hS rfl rfl rfl rfl rfl (sp_unicode_utf8_ValidRune (r) _) ?_
        intro w hS
        refine notb rfl rfl rfl ?_
        refine asg rfl rfl rfl ?_
        refine wq_then ?_
        refine wc_if rfl (fun hc4 => ?_) (fun hc4 => ?_)
        · skip
          try simp only [SB] at hc4
          refine rg ?_
          refine asg rfl rfl rfl ?_
          refine wq_then ?_
          refine wc_ret ?_
          refine q_block_ret ?_
          refine fin1 (v := I (-1)) rfl rfl ?_
          exact ⟨rfl, hS.drop⟩
        · skip
          try simp only [SB] at hc4
          have hvr : Lib.validRune r = true := by simpa using hc4
          obtain ⟨hl2, hl4, hl8⟩ := encR_hi r h0 (by simp only [Lib.validRune, Utf8.valid, decide_eq_true_eq, Bool.or_eq_true, Bool.and_eq_true] at hvr ⊢; omega)
          refine wc_scope ?_
          refine rg ?_
          refine mv rfl rfl rfl ?_
          refine cvs Tryz.underlying9 ⟨_, Tryz.underlying21⟩ rfl rfl rfl ?_
          refine asg rfl rfl rfl ?_
          refine wq_then ?_
          refine rg ?_
          refine mv rfl rfl rfl ?_
          refine lnst Tryz.underlying9 rfl rfl rfl ?_
          refine subi (by omega) (by omega) rfl rfl rfl rfl ?_
          refine asg rfl rfl rfl ?_
          refine wq_then ?_
          refine rg ?_
          refine mv rfl rfl rfl ?_
          refine asg rfl rfl rfl ?_
          refine wq_then ?_
          refine rg ?_
          refine asg rfl rfl rfl ?_
          refine wq_then ?_
          refine wc_seq ?_
          refine wc_block ?_
          refine wc_loop (σ := Nat) (fun k => [(0, Str ([46, 58, 45])), (1, R32 r), (7, Str (encX (r))), (8, I ((((encX (r)).length : Nat) : Int) - 1)), (9, I ((((encX r).length : Nat) : Int) - 1))])
            (fun k w => (True) ∧ St w0 [] [] w) (fun k => 0) 0 ⟨rfl, rfl, rfl, rfl, rfl, trivial⟩ ⟨trivial, hS⟩ ?_
          rintro k w ⟨hk, hS⟩
          refine wc_seq ?_
          refine rg ?_
          refine mv rfl rfl rfl ?_
          refine mv rfl rfl rfl ?_
          refine lnst Tryz.underlying9 rfl rfl rfl ?_
          refine lss rfl rfl rfl rfl ?_
          refine wq_then ?_
          refine wc_if rfl (fun hc5 => ?_) (fun hc5 => ?_)
          · skip
            try simp only [SB] at hc5
            refine wc_skip ?_
            refine wq_then ?_
            refine wc_block ?_
            refine wc_scope ?_
            refine wc_seq ?_
            refine rd mo 7 (fun w => St w0 [] [] w) ?_
            have hS := hS.drew
            refine dq 0 rfl (by kernel_rfl) (by kernel_rfl) (by kernel_rfl) rfl rfl (fun w hS => mv rfl rfl rfl ⟨rfl, rfl⟩) hS ?_
            refine dq 1 rfl (by kernel_rfl) (by kernel_rfl) (by kernel_rfl) rfl rfl (fun w hS => mv rfl rfl rfl ⟨rfl, rfl⟩) hS ?_
            refine dq 2 rfl (by kernel_rfl) (by kernel_rfl) (by kernel_rfl) rfl rfl (fun w hS => ixs ((encX r).length - 1) Tryz.underlying9 rfl rfl rfl rfl (by omega) (by omega) ⟨rfl, rfl⟩) hS ?_
            refine dq 3 rfl (by kernel_rfl) (by kernel_rfl) (by kernel_rfl) rfl rfl (fun w hS => mv rfl rfl rfl ⟨rfl, rfl⟩) hS ?_
            refine dq 4 rfl (by kernel_rfl) (by kernel_rfl) (by kernel_rfl) rfl rfl (fun w hS => mv rfl rfl rfl ⟨rfl, rfl⟩) hS ?_
            refine dq 5 rfl (by kernel_rfl) (by kernel_rfl) (by kernel_rfl) rfl rfl (fun w hS => ixs (((encX (r)).length) - 1) Tryz.underlying9 rfl rfl rfl rfl (by omega) (by omega) ⟨rfl, rfl⟩) hS ?_
            refine dq 6 rfl (by kernel_rfl) (by kernel_rfl) (by kernel_rfl) rfl rfl (fun w hS => nei rfl rfl rfl rfl ⟨rfl, rfl⟩) hS ?_
            refine de (by kernel_rfl) ?_
            refine wq_then ?_
            refine wc_if rfl (fun hc6 => ?_) (fun hc6 => ?_)
            · skip
              try simp only [SB] at hc6
              refine rd mo 8 (fun w => St w0 [] [] w) ?_
              have hS := hS.drew
              refine dq 0 rfl (by kernel_rfl) (by kernel_rfl) (by kernel_rfl) rfl rfl (fun w hS => mv rfl rfl rfl ⟨rfl, rfl⟩) hS ?_
              refine dq 1 rfl (by kernel_rfl) (by kernel_rfl) (by kernel_rfl) rfl rfl (fun w hS => mv rfl rfl rfl ⟨rfl, rfl⟩) hS ?_
              refine dq 2 rfl (by kernel_rfl) (by kernel_rfl) (by kernel_rfl) rfl rfl (fun w hS => addi (by omega) (by omega) rfl rfl rfl rfl ⟨rfl, rfl⟩) hS ?_
              refine dq 3 rfl (by kernel_rfl) (by kernel_rfl) (by kernel_rfl) rfl rfl (fun w hS => ssl (((encX r).length - 1) + 1) Tryz.underlying9 rfl rfl rfl rfl (by omega) (by omega) ⟨rfl, rfl⟩) hS ?_
              refine dq 4 rfl (by kernel_rfl) (by kernel_rfl) (by kernel_rfl) rfl rfl (fun w hS => mv rfl rfl rfl ⟨rfl, rfl⟩) hS ?_
              refine dq 5 rfl (by kernel_rfl) (by kernel_rfl) (by kernel_rfl) rfl rfl (fun w hS => mv rfl rfl rfl ⟨rfl, rfl⟩) hS ?_
              refine dq 6 rfl (by kernel_rfl) (by kernel_rfl) (by kernel_rfl) rfl rfl (fun w hS => ixs (((encX (r)).length) - 1) Tryz.underlying9 rfl rfl rfl rfl (by omega) (by omega) ⟨rfl, rfl⟩) hS ?_
              refine dl 7 rfl (by kernel_rfl) ?_
              refine cv cf193 hS rfl rfl rfl rfl rfl (sp_strings_IndexByte ((([46, 58, 45]).drop (((encX r).length - 1) + 1))) ((gl (encX (r)) (((encX (r)).length) - 1))) _) ?_
              intro w hS
              refine ⟨fun _ => hS, ?_⟩
              refine dl 8 rfl (by kernel_rfl) ?_
              refine asg rfl rfl rfl ?_
              refine ⟨fun h => (by cases h), ?_⟩
              refine de (by kernel_rfl) ?_
              refine wq_then ?_
              refine wc_seq ?_
              refine rg ?_
              refine mv rfl rfl rfl ?_
              refine lss rfl rfl rfl rfl ?_
              refine wq_then ?_
              refine wc_if rfl (fun hc7 => ?_) (fun hc7 => ?_)
              · skip
                try simp only [SB] at hc7
                refine rg ?_
                refine asg rfl rfl rfl ?_
                refine wq_then ?_
                refine wc_ret ?_
                refine q_then_ret ?_
                refine q_then_ret ?_
                refine q_scope_ret ?_
                refine q_block_ret ?_
                refine q_then_ret ?_
                refine q_block_ret ?_
                refine q_then_ret ?_
                refine q_scope_ret ?_
                refine q_block_ret ?_
                refine fin1 (v := I (-1)) rfl rfl ?_
                exact ⟨rfl, hS.drop⟩
              · skip
                try simp only [SB] at hc7
                exfalso; rw [ixB_hi _ (by omega) _ hl8] at hc7; omega
            · skip
              try simp only [SB] at hc6
              exfalso; have := dots ((encX r).length - 1) (by omega); omega
          · skip
            try simp only [SB] at hc5
            refine wc_exit ?_
            refine q_then_exit ?_
            refine q_then_exit ?_
            refine q_block_hit ?_
            refine wq_then ?_
            refine wc_seq ?_
            refine rg ?_
            refine asg rfl rfl rfl ?_
            refine wq_then ?_
            refine wc_ret ?_
            refine q_then_ret ?_
            refine q_scope_ret ?_
            refine q_block_ret ?_
            refine fin1 (v := I (-1)) rfl rfl ?_
            exact ⟨rfl, hS.drop⟩
  · skip
    try simp only [SB] at hb1
    exfalso; omega
end Go.Proofs.XS

/- walks -/
namespace Go.Proofs.XS
open Go Go.X Go.Proofs
theorem sp_strings_IndexRune (r : Int) (w0 : World) (h0 : 0 ≤ r) : Calls Tryz.prog 163 #[Str [46, 58, 45], R32 r] w0 (Ret w0 (I (ixR r))) := by
  by_cases h1 : r < 128
  · have h := Tryz.strings_IndexRune_ascii ⟨#[46, 58, 45]⟩ r w0 h0 h1
    rw [ixR_lo r h0 h1] at h
    exact ret_same h
  · have e : ixR r = -1 := by unfold ixR; rw [if_neg (by omega), if_neg (by omega), if_neg (by omega)]
    rw [e]; exact sp_IndexRuneHi r w0 (by omega)
end Go.Proofs.XS

/- walks -/
namespace Go.Proofs.XS
open Go Go.X Go.Proofs
set_option maxRecDepth 100000 in
theorem sp_strings_ContainsRune (r : Int) (w0 : World) (h0 : 0 ≤ r) : Calls Tryz.prog 127 #[Str [46, 58, 45], R32 r] w0 (Ret w0 (.bool (decide ((ixR r) ≥ (0 : Int))))) := by
  refine enter (args := [Str [46, 58, 45], R32 r]) Tryz.func127 rfl rfl ?_
  refine startw fun w hS => ?_
  refine rg ?_
  refine asg rfl rfl rfl ?_
  refine wq_then ?_
  refine rg ?_
  refine mv rfl rfl rfl ?_
  refine mv rfl rfl rfl ?_
  refine cv cf163 hS rfl rfl rfl rfl rfl (sp_strings_IndexRune (r) _ (by omega)) ?_
  intro w hS
  refine geq rfl rfl rfl rfl ?_
  refine asg rfl rfl rfl ?_
  refine wq_then ?_
  refine wc_ret ?_
  refine fin1 (v := .bool (decide ((ixR r) ≥ 0))) rfl rfl ?_
  exact ⟨rfl, hS.drop⟩
end Go.Proofs.XS

/- walks -/
namespace Go.Proofs.XS
open Go Go.X Go.Proofs
set_option maxRecDepth 100000 in
theorem sp_peer_right (c : Int) (w0 : World) (h0 : 0 ≤ c) (h1 : c ≤ 1114111) : Calls Tryz.prog 103 #[R32 c] w0 (Ret w0 (.bool (okR c))) := by
  refine enter (args := [R32 c]) Tryz.func103 rfl rfl ?_
  refine startw fun w hS => ?_
  refine rg ?_
  refine asg rfl rfl rfl ?_
  refine wq_then ?_
  refine rg ?_
  refine mv rfl rfl rfl ?_
  refine geq rfl rfl rfl rfl ?_
  refine mv rfl rfl rfl ?_
  refine spl 5 rfl (fun hb1 => ?_) (fun hb1 => ?_)
  · skip
    try simp only [SB] at hb1
    refine mv rfl rfl rfl ?_
    refine leq rfl rfl rfl rfl ?_
    refine pk_t rfl rfl rfl rfl ?_
    refine mv rfl rfl rfl ?_
    refine spl 9 rfl (fun hb2 => ?_) (fun hb2 => ?_)
    · skip
      try simp only [SB] at hb2
      refine no rfl rfl ?_
      refine no rfl rfl ?_
      refine no rfl rfl ?_
      refine no rfl rfl ?_
      refine no rfl rfl ?_
      refine no rfl rfl ?_
      refine pk_t rfl rfl rfl rfl ?_
      refine mv rfl rfl rfl ?_
      refine no rfl rfl ?_
      refine no rfl rfl ?_
      refine no rfl rfl ?_
      refine no rfl rfl ?_
      refine no rfl rfl ?_
      refine no rfl rfl ?_
      refine pk_t rfl rfl rfl rfl ?_
      refine mv rfl rfl rfl ?_
      refine no rfl rfl ?_
      refine no rfl rfl ?_
      refine pk_t rfl rfl rfl rfl ?_
      refine asg rfl rfl rfl ?_
      refine wq_then ?_
      refine wc_ret ?_
      refine fin1 (v := .bool (true)) rfl rfl ?_
      refine ⟨?_, hS.drop⟩
      congr 2
      have hx := ixR_ok c
      simp only [okR]
      first | (exact (decide_eq_true (by omega)).symm) | (congr 1; apply propext; omega)
    · skip
      try simp only [SB] at hb2
      refine mv rfl rfl rfl ?_
      refine geq rfl rfl rfl rfl ?_
      refine mv rfl rfl rfl ?_
      refine spl 12 rfl (fun hb3 => ?_) (fun hb3 => ?_)
      · skip
        try simp only [SB] at hb3
        refine mv rfl rfl rfl ?_
        refine leq rfl rfl rfl rfl ?_
        refine pk_t rfl rfl rfl rfl ?_
        refine pk_f rfl rfl rfl rfl ?_
        refine mv rfl rfl rfl ?_
        refine spl 17 rfl (fun hb4 => ?_) (fun hb4 => ?_)
        · skip
          try simp only [SB] at hb4
          exfalso; omega
        · skip
          try simp only [SB] at hb4
          refine mv rfl rfl rfl ?_
          refine geq rfl rfl rfl rfl ?_
          refine mv rfl rfl rfl ?_
          refine spl 20 rfl (fun hb5 => ?_) (fun hb5 => ?_)
          · skip
            try simp only [SB] at hb5
            refine mv rfl rfl rfl ?_
            refine leq rfl rfl rfl rfl ?_
            refine pk_t rfl rfl rfl rfl ?_
            refine pk_f rfl rfl rfl rfl ?_
            refine mv rfl rfl rfl ?_
            refine spl 25 rfl (fun hb6 => ?_) (fun hb6 => ?_)
            · skip
              try simp only [SB] at hb6
              exfalso; omega
            · skip
              try simp only [SB] at hb6
              refine mv rfl rfl rfl ?_
              refine cv cf127 hS rfl rfl rfl rfl rfl (sp_strings_ContainsRune (c) _ (by omega)) ?_
              intro w hS
              refine pk_f rfl rfl rfl rfl ?_
              refine asg rfl rfl rfl ?_
              refine wq_then ?_
              refine wc_ret ?_
              refine fin1 (v := .bool (decide ((ixR c) ≥ (0 : Int)))) rfl rfl ?_
              refine ⟨?_, hS.drop⟩
              congr 2
              have hx := ixR_ok c
              simp only [okR]
              first | (exact (decide_eq_true (by omega)).symm) | (congr 1; apply propext; omega)
          · skip
            try simp only [SB] at hb5
            exfalso; omega
      · skip
        try simp only [SB] at hb3
        exfalso; omega
  · skip
    try simp only [SB] at hb1
    refine no rfl rfl ?_
    refine no rfl rfl ?_
    refine pk_f rfl rfl rfl rfl ?_
    refine mv rfl rfl rfl ?_
    refine mv rfl rfl rfl ?_
    refine geq rfl rfl rfl rfl ?_
    refine mv rfl rfl rfl ?_
    refine spl 12 rfl (fun hb7 => ?_) (fun hb7 => ?_)
    · skip
      try simp only [SB] at hb7
      refine mv rfl rfl rfl ?_
      refine leq rfl rfl rfl rfl ?_
      refine pk_t rfl rfl rfl rfl ?_
      refine pk_f rfl rfl rfl rfl ?_
      refine mv rfl rfl rfl ?_
      refine spl 17 rfl (fun hb8 => ?_) (fun hb8 => ?_)
      · skip
        try simp only [SB] at hb8
        refine no rfl rfl ?_
        refine no rfl rfl ?_
        refine no rfl rfl ?_
        refine no rfl rfl ?_
        refine no rfl rfl ?_
        refine no rfl rfl ?_
        refine pk_t rfl rfl rfl rfl ?_
        refine mv rfl rfl rfl ?_
        refine no rfl rfl ?_
        refine no rfl rfl ?_
        refine pk_t rfl rfl rfl rfl ?_
        refine asg rfl rfl rfl ?_
        refine wq_then ?_
        refine wc_ret ?_
        refine fin1 (v := .bool (true)) rfl rfl ?_
        refine ⟨?_, hS.drop⟩
        congr 2
        have hx := ixR_ok c
        simp only [okR]
        first | (exact (decide_eq_true (by omega)).symm) | (congr 1; apply propext; omega)
      · skip
        try simp only [SB] at hb8
        refine mv rfl rfl rfl ?_
        refine geq rfl rfl rfl rfl ?_
        refine mv rfl rfl rfl ?_
        refine spl 20 rfl (fun hb9 => ?_) (fun hb9 => ?_)
        · skip
          try simp only [SB] at hb9
          refine mv rfl rfl rfl ?_
          refine leq rfl rfl rfl rfl ?_
          refine pk_t rfl rfl rfl rfl ?_
          refine pk_f rfl rfl rfl rfl ?_
          refine mv rfl rfl rfl ?_
          refine spl 25 rfl (fun hb10 => ?_) (fun hb10 => ?_)
          · skip
            try simp only [SB] at hb10
            exfalso; omega
          · skip
            try simp only [SB] at hb10
            refine mv rfl rfl rfl ?_
            refine cv cf127 hS rfl rfl rfl rfl rfl (sp_strings_ContainsRune (c) _ (by omega)) ?_
            intro w hS
            refine pk_f rfl rfl rfl rfl ?_
            refine asg rfl rfl rfl ?_
            refine wq_then ?_
            refine wc_ret ?_
            refine fin1 (v := .bool (decide ((ixR c) ≥ (0 : Int)))) rfl rfl ?_
            refine ⟨?_, hS.drop⟩
            congr 2
            have hx := ixR_ok c
            simp only [okR]
            first | (exact (decide_eq_true (by omega)).symm) | (congr 1; apply propext; omega)
        · skip
          try simp only [SB] at hb9
          exfalso; omega
    · skip
      try simp only [SB] at hb7
      refine no rfl rfl ?_
      refine no rfl rfl ?_
      refine pk_f rfl rfl rfl rfl ?_
      refine pk_f rfl rfl rfl rfl ?_
      refine mv rfl rfl rfl ?_
      refine mv rfl rfl rfl ?_
      refine geq rfl rfl rfl rfl ?_
      refine mv rfl rfl rfl ?_
      refine spl 20 rfl (fun hb11 => ?_) (fun hb11 => ?_)
      · skip
        try simp only [SB] at hb11
        refine mv rfl rfl rfl ?_
        refine leq rfl rfl rfl rfl ?_
        refine pk_t rfl rfl rfl rfl ?_
        refine pk_f rfl rfl rfl rfl ?_
        refine mv rfl rfl rfl ?_
        refine spl 25 rfl (fun hb12 => ?_) (fun hb12 => ?_)
        · skip
          try simp only [SB] at hb12
          refine no rfl rfl ?_
          refine no rfl rfl ?_
          refine pk_t rfl rfl rfl rfl ?_
          refine asg rfl rfl rfl ?_
          refine wq_then ?_
          refine wc_ret ?_
          refine fin1 (v := .bool (true)) rfl rfl ?_
          refine ⟨?_, hS.drop⟩
          congr 2
          have hx := ixR_ok c
          simp only [okR]
          first | (exact (decide_eq_true (by omega)).symm) | (congr 1; apply propext; omega)
        · skip
          try simp only [SB] at hb12
          refine mv rfl rfl rfl ?_
          refine cv cf127 hS rfl rfl rfl rfl rfl (sp_strings_ContainsRune (c) _ (by omega)) ?_
          intro w hS
          refine pk_f rfl rfl rfl rfl ?_
          refine asg rfl rfl rfl ?_
          refine wq_then ?_
          refine wc_ret ?_
          refine fin1 (v := .bool (decide ((ixR c) ≥ (0 : Int)))) rfl rfl ?_
          refine ⟨?_, hS.drop⟩
          congr 2
          have hx := ixR_ok c
          simp only [okR]
          first | (exact (decide_eq_true (by omega)).symm) | (congr 1; apply propext; omega)
      · skip
        try simp only [SB] at hb11
        refine no rfl rfl ?_
        refine no rfl rfl ?_
        refine pk_f rfl rfl rfl rfl ?_
        refine pk_f rfl rfl rfl rfl ?_
        refine mv rfl rfl rfl ?_
        refine mv rfl rfl rfl ?_
        refine cv cf127 hS rfl rfl rfl rfl rfl (sp_strings_ContainsRune (c) _ (by omega)) ?_
        intro w hS
        refine pk_f rfl rfl rfl rfl ?_
        refine asg rfl rfl rfl ?_
        refine wq_then ?_
        refine wc_ret ?_
        refine fin1 (v := .bool (decide ((ixR c) ≥ (0 : Int)))) rfl rfl ?_
        refine ⟨?_, hS.drop⟩
        congr 2
        have hx := ixR_ok c
        simp only [okR]
        first | (exact (decide_eq_true (by omega)).symm) | (congr 1; apply propext; omega)
end Go.Proofs.XS

/- walks -/
namespace Go.Proofs.XS
open Go Go.X Go.Proofs
set_option maxRecDepth 100000 in
theorem sp_peer_Right_1 (c : Int) (w0 : World) (h0 : 0 ≤ c) (h1 : c ≤ 1114111) : Calls Tryz.prog 102 #[R32 c] w0 (Ret w0 (.bool (!okR c))) := by
  refine enter (args := [R32 c]) Tryz.func102 rfl rfl ?_
  refine startw fun w hS => ?_
  refine rg ?_
  refine asg rfl rfl rfl ?_
  refine wq_then ?_
  refine rg ?_
  refine mv rfl rfl rfl ?_
  refine cv cf103 hS rfl rfl rfl rfl rfl (sp_peer_right (c) _ (by omega) (by omega)) ?_
  intro w hS
  refine notb rfl rfl rfl ?_
  refine asg rfl rfl rfl ?_
  refine wq_then ?_
  refine wc_ret ?_
  refine fin1 (v := .bool (!(okR c))) rfl rfl ?_
  exact ⟨rfl, hS.drop⟩
end Go.Proofs.XS

/- walks -/
namespace Go.Proofs.XS
open Go Go.X Go.Proofs
theorem sp_strings_ContainsFunc (s : List UInt8) (w0 : World) : Calls Tryz.prog 104 #[Str s, .func (.func 102) #[] #[]] w0 (Ret w0 (.bool (!s.all okB))) := by
  rw [← idx_all]
  exact ret_below (Tryz.strings_ContainsFunc_grows 102 #[] (fun args w => run_callFunc cf102 args w) badR ⟨s.toArray⟩ w0 (fun W x hx _ =>
    (sp_peer_Right_1 (x : Int) W (by omega) (by omega)).mono fun e w' h => ⟨h.1, h.2.below⟩))
end Go.Proofs.XS

/- walks -/
namespace Go.Proofs.XS
open Go Go.X Go.Proofs
set_option maxRecDepth 100000 in
theorem sp_peer_Right (s : List UInt8) (w0 : World) : Calls Tryz.prog 70 #[Str s] w0 (Ret w0 (.bool (okA s))) := by
  refine enter (args := [Str s]) Tryz.func70 rfl rfl ?_
  refine startw fun w hS => ?_
  refine rg ?_
  refine asg rfl rfl rfl ?_
  refine wq_then ?_
  refine rg ?_
  refine asg rfl rfl rfl ?_
  refine wq_then ?_
  refine rg ?_
  refine mv rfl rfl rfl ?_
  refine nes rfl rfl rfl rfl ?_
  refine mv rfl rfl rfl ?_
  refine spl 6 rfl (fun hb1 => ?_) (fun hb1 => ?_)
  · skip
    try simp only [SB] at hb1
    refine mv rfl rfl rfl ?_
    refine lnst Tryz.underlying9 rfl rfl rfl ?_
    refine leq rfl rfl rfl rfl ?_
    refine pk_t rfl rfl rfl rfl ?_
    refine mv rfl rfl rfl ?_
    refine spl 11 rfl (fun hb2 => ?_) (fun hb2 => ?_)
    · skip
      try simp only [SB] at hb2
      refine mv rfl rfl rfl ?_
      refine mv rfl rfl rfl ?_
      refine cv cf104 hS rfl rfl rfl rfl rfl (sp_strings_ContainsFunc (s) _) ?_
      intro w hS
      refine notb rfl rfl rfl ?_
      refine pk_t rfl rfl rfl rfl ?_
      refine asg rfl rfl rfl ?_
      refine wq_then ?_
      refine wc_ret ?_
      refine fin1 (v := .bool (!(!(s).all okB))) rfl rfl ?_
      refine ⟨?_, hS.drop⟩
      congr 2
      first | (rw [okA]; simp_all; done) | (rw [okA, decide_eq_true (by simp_all; omega)]; simp_all; done) | (rw [okA, decide_eq_false (by simp_all; omega)]; simp_all; done)
    · skip
      try simp only [SB] at hb2
      refine no rfl rfl ?_
      refine no rfl rfl ?_
      refine no rfl rfl ?_
      refine no rfl rfl ?_
      refine pk_f rfl rfl rfl rfl ?_
      refine asg rfl rfl rfl ?_
      refine wq_then ?_
      refine wc_ret ?_
      refine fin1 (v := .bool (false)) rfl rfl ?_
      refine ⟨?_, hS.drop⟩
      congr 2
      first | (rw [okA]; simp_all; done) | (rw [okA, decide_eq_true (by simp_all; omega)]; simp_all; done) | (rw [okA, decide_eq_false (by simp_all; omega)]; simp_all; done)
  · skip
    try simp only [SB] at hb1
    refine no rfl rfl ?_
    refine no rfl rfl ?_
    refine no rfl rfl ?_
    refine pk_f rfl rfl rfl rfl ?_
    refine mv rfl rfl rfl ?_
    refine no rfl rfl ?_
    refine no rfl rfl ?_
    refine no rfl rfl ?_
    refine no rfl rfl ?_
    refine pk_f rfl rfl rfl rfl ?_
    refine asg rfl rfl rfl ?_
    refine wq_then ?_
    refine wc_ret ?_
    refine fin1 (v := .bool (false)) rfl rfl ?_
    refine ⟨?_, hS.drop⟩
    congr 2
    first | (rw [okA]; simp_all; done) | (rw [okA, decide_eq_true (by simp_all; omega)]; simp_all; done) | (rw [okA, decide_eq_false (by simp_all; omega)]; simp_all; done)
end Go.Proofs.XS

/- walks -/
namespace Go.Proofs.XS
open Go Go.X Go.Proofs
set_option maxRecDepth 100000 in
theorem sp_peer_New (s : List UInt8) (w0 : World) : Calls Tryz.prog 24 #[Str s] w0 (RetS w0 (fun v L => ∃ b m, v = Ptr b 0 ∧ L = [(b, .cells #[Str (adA s), .bool false, I ((0 : Nat) : Int), .map (some m)] 135), (m, mOb encS vI [])])) := by
  refine enter (args := [Str s]) Tryz.func24 rfl rfl ?_
  refine startw fun w hS => ?_
  refine rg ?_
  refine asg rfl rfl rfl ?_
  refine wq_then ?_
  refine rg ?_
  refine mkm hS rfl rfl encS vI ?_
  intro b4 w hb4 hS
  refine bd (cs := #[Str ([]), .bool (false), I (0), .map (some b4)]) rfl rfl rfl (by kernel_rfl) ?_
  refine bxa hS rfl rfl rfl ?_
  intro b6 w hb6 hS
  refine asg rfl rfl rfl ?_
  refine wq_then ?_
  refine wc_seq ?_
  refine rg ?_
  refine mv rfl rfl rfl ?_
  refine cv cf70 hS rfl rfl rfl rfl rfl (sp_peer_Right (s) _) ?_
  intro w hS
  refine wq_then ?_
  refine wc_if rfl (fun hc1 => ?_) (fun hc1 => ?_)
  · skip
    try simp only [SB] at hc1
    refine wc_region ?_
    refine mv rfl rfl rfl ?_
    refine mv rfl rfl rfl ?_
    refine nilp rfl rfl rfl ?_
    refine fan (0) (0) Tryz.underlying135 rfl sz9 (by decide) rfl rfl rfl rfl (by omega) ?_
    refine st 0 sz9 hS rfl rfl rfl rfl rfl rfl (by show (0 : Nat) < 4; decide) rfl ?_
    intro w hS
    refine wq_then ?_
    refine rg ?_
    refine mv rfl rfl rfl ?_
    refine asg rfl rfl rfl ?_
    refine wq_then ?_
    refine wc_ret ?_
    refine fin1 (v := Ptr b6 0) rfl rfl ?_
    first | exact ⟨_, _, rfl, ⟨_, _, rfl, rfl⟩, hS⟩ | (have e : adA s = s := if_pos hc1; exact ⟨_, _, rfl, ⟨_, _, rfl, rfl⟩, by rw [e]; exact hS⟩) | (have e : adA s = [] := if_neg (by simp [hc1]); exact ⟨_, _, rfl, ⟨_, _, rfl, rfl⟩, by rw [e]; exact hS⟩)
  · skip
    try simp only [SB] at hc1
    refine wc_skip ?_
    refine wq_then ?_
    refine rg ?_
    refine mv rfl rfl rfl ?_
    refine asg rfl rfl rfl ?_
    refine wq_then ?_
    refine wc_ret ?_
    refine fin1 (v := Ptr b6 0) rfl rfl ?_
    first | exact ⟨_, _, rfl, ⟨_, _, rfl, rfl⟩, hS⟩ | (have e : adA s = s := if_pos hc1; exact ⟨_, _, rfl, ⟨_, _, rfl, rfl⟩, by rw [e]; exact hS⟩) | (have e : adA s = [] := if_neg (by simp [hc1]); exact ⟨_, _, rfl, ⟨_, _, rfl, rfl⟩, by rw [e]; exact hS⟩)
end Go.Proofs.XS

/- walks -/
namespace Go.Proofs.XS
open Go Go.X Go.Proofs
set_option maxRecDepth 100000 in
theorem sp_peer_Fixed (s : List UInt8) (w0 : World) : Calls Tryz.prog 25 #[Str s] w0 (RetS w0 (fun v L => ∃ b m, v = Ptr b 0 ∧ L = [(b, .cells #[Str (adA s), .bool true, I ((0 : Nat) : Int), .map (some m)] 135), (m, mOb encS vI [])])) := by
  refine enter (args := [Str s]) Tryz.func25 rfl rfl ?_
  refine startw fun w hS => ?_
  refine rg ?_
  refine asg rfl rfl rfl ?_
  refine wq_then ?_
  refine rg ?_
  refine mv rfl rfl rfl ?_
  refine cs cf24 hS rfl rfl rfl rfl rfl (sp_peer_New (s) _) ?_
  rintro _ _ w ⟨b5, m5, rfl, rfl⟩ hS
  refine asg rfl rfl rfl ?_
  refine wq_then ?_
  refine rg ?_
  refine mv rfl rfl rfl ?_
  refine nilp rfl rfl rfl ?_
  refine fan (1) (1) Tryz.underlying135 rfl sz4 (by decide) rfl rfl rfl rfl (by omega) ?_
  refine st 0 sz4 hS rfl rfl rfl rfl rfl rfl (by show (1 : Nat) < 4; decide) rfl ?_
  intro w hS
  refine wq_then ?_
  refine rg ?_
  refine mv rfl rfl rfl ?_
  refine asg rfl rfl rfl ?_
  refine wq_then ?_
  refine wc_ret ?_
  refine fin1 (v := Ptr b5 0) rfl rfl ?_
  first | exact ⟨_, _, rfl, ⟨_, _, rfl, rfl⟩, hS⟩ | (have e : adA s = s := if_pos hc1; exact ⟨_, _, rfl, ⟨_, _, rfl, rfl⟩, by rw [e]; exact hS⟩) | (have e : adA s = [] := if_neg (by simp [hc1]); exact ⟨_, _, rfl, ⟨_, _, rfl, rfl⟩, by rw [e]; exact hS⟩)
end Go.Proofs.XS

/- walks -/
namespace Go.Proofs.XS
open Go Go.X Go.Proofs
set_option maxRecDepth 100000 in
theorem sp_session_New (key : V8 16) (d : Nat) (ad : List UInt8) (nx : UInt64) (d_ : Int) (w0 : World) (hd_ : d_ = (d : Int)) (hd : d ≤ 1) : Calls Tryz.prog 9 #[.agg (BV key), I d_, Str ad, U64 nx] w0 (RetS w0 (fun v L => ∃ s, v = .tuple #[Ptr s 0, .nilIface] ∧ SesO s (sesN key d ad nx) L)) := by
  subst hd_
  refine enter (args := [.agg (BV key), I (d : Int), Str ad, U64 nx]) Tryz.func9 rfl rfl ?_
  refine startw fun w hS => ?_
  refine rg ?_
  refine bxa hS rfl rfl rfl ?_
  intro b4 w hb4 hS
  refine asg rfl rfl rfl ?_
  refine asg rfl rfl rfl ?_
  refine wq_then ?_
  refine wc_seq ?_
  refine rg ?_
  refine mv rfl rfl rfl ?_
  refine nei rfl rfl rfl rfl ?_
  refine mv rfl rfl rfl ?_
  refine spl 13 rfl (fun hb1 => ?_) (fun hb1 => ?_)
  · skip
    try simp only [SB] at hb1
    refine mv rfl rfl rfl ?_
    refine nei rfl rfl rfl rfl ?_
    refine pk_t rfl rfl rfl rfl ?_
    refine wq_then ?_
    refine wc_if rfl (fun hc1 => ?_) (fun hc1 => ?_)
    · skip
      try simp only [SB] at hc1
      exfalso; omega
    · skip
      try simp only [SB] at hc1
      refine wc_skip ?_
      refine wq_then ?_
      refine rg ?_
      refine asg rfl rfl rfl ?_
      refine wq_then ?_
      refine wc_seq ?_
      refine rg ?_
      refine mv rfl rfl rfl ?_
      refine eqi rfl rfl rfl rfl ?_
      refine wq_then ?_
      refine wc_if rfl (fun hc2 => ?_) (fun hc2 => ?_)
      · skip
        try simp only [SB] at hc2
        refine wc_region ?_
        refine asg rfl rfl rfl ?_
        refine wq_then ?_
        refine rd mo 15 (fun w => St w0 [] [(b4, .cells (BV key) 22)] w) ?_
        have hS := hS.drew
        refine dq 0 rfl (by kernel_rfl) (by kernel_rfl) (by kernel_rfl) rfl rfl (fun w hS => mv rfl rfl rfl ⟨rfl, rfl⟩) (hS.sublist (.cons_cons _ (List.nil_sublist _))) ?_
        refine dq 1 rfl (by kernel_rfl) (by kernel_rfl) (by kernel_rfl) rfl rfl (fun w hS => mv rfl rfl rfl ⟨rfl, rfl⟩) (hS.sublist (.cons_cons _ (List.nil_sublist _))) ?_
        refine dq 3 rfl (by kernel_rfl) (by kernel_rfl) (by kernel_rfl) rfl rfl (fun w hS => mv rfl rfl rfl ⟨rfl, rfl⟩) (hS.sublist (.cons_cons _ (List.nil_sublist _))) ?_
        refine dq 4 rfl (by kernel_rfl) (by kernel_rfl) (by kernel_rfl) rfl rfl (fun w hS => la 0 ag22 hS rfl rfl rfl rfl (BV_size _) ⟨rfl, rfl⟩) (hS.sublist (.cons_cons _ (List.nil_sublist _))) ?_
        refine dq 7 rfl (by kernel_rfl) (by kernel_rfl) (by kernel_rfl) rfl rfl (fun w hS => mv rfl rfl rfl ⟨rfl, rfl⟩) (hS.sublist (.cons_cons _ (List.nil_sublist _))) ?_
        refine dq 11 rfl (by kernel_rfl) (by kernel_rfl) (by kernel_rfl) rfl rfl (fun w hS => mv rfl rfl rfl ⟨rfl, rfl⟩) (hS.sublist (.cons_cons _ (List.nil_sublist _))) ?_
        refine dq 12 rfl (by kernel_rfl) (by kernel_rfl) (by kernel_rfl) rfl rfl (fun w hS => minu (q := (9223372036854775807 : UInt64)) rfl rfl rfl rfl ⟨rfl, rfl⟩) (hS.sublist (.cons_cons _ (List.nil_sublist _))) ?_
        refine dl 2 rfl (by kernel_rfl) ?_
        refine cs cf25 hS rfl rfl rfl rfl rfl (sp_peer_Fixed (ad) _) ?_
        rintro _ _ w ⟨b22, m22, rfl, rfl⟩ hS
        refine ⟨fun _ => (hS.sublist (.cons _ (.cons _ (.cons_cons _ (List.nil_sublist _))))), ?_⟩
        refine dl 5 rfl (by kernel_rfl) ?_
        refine cs cf27 hS rfl rfl rfl rfl rfl (sp_fast_New (key) _) ?_
        rintro _ _ w ⟨c25, rfl, rfl⟩ hS
        refine ⟨fun _ => (hS.sublist (.cons _ (.cons _ (.cons _ (.cons_cons _ (List.nil_sublist _)))))), ?_⟩
        refine dl 6 rfl (by kernel_rfl) ?_
        refine cs cf26 hS rfl rfl rfl rfl rfl (sp_table_New (c25) (_) (key) _ (hS.get 0 rfl)) ?_
        rintro _ _ w ⟨t26, rfl, rfl⟩ hS
        refine ⟨fun _ => (hS.sublist (.cons _ (.cons _ (.cons _ (.cons _ (.cons_cons _ (List.nil_sublist _))))))), ?_⟩
        refine dl 8 rfl (by kernel_rfl) ?_
        refine cs cf28 hS rfl rfl rfl rfl rfl (sp_counter_New (nx) _) ?_
        rintro _ _ w ⟨b28, rfl, rfl⟩ hS
        refine ⟨fun _ => (hS.sublist (.cons _ (.cons _ (.cons _ (.cons _ (.cons _ (.cons_cons _ (List.nil_sublist _)))))))), ?_⟩
        refine dl 9 rfl (by kernel_rfl) ?_
        refine cs cf29 hS rfl rfl rfl rfl rfl (sp_filter_New _) ?_
        rintro _ _ w ⟨b29, rfl, rfl⟩ hS
        refine ⟨fun _ => (hS.sublist (.cons _ (.cons _ (.cons _ (.cons _ (.cons _ (.cons _ (.cons_cons _ (List.nil_sublist _))))))))), ?_⟩
        refine dl 10 rfl (by kernel_rfl) ?_
        refine cs cf30 hS rfl rfl rfl rfl rfl (sp_echo_New _) ?_
        rintro _ _ w ⟨b30, rfl, rfl⟩ hS
        refine ⟨fun _ => (hS.sublist (.cons _ (.cons _ (.cons _ (.cons _ (.cons _ (.cons _ (.cons _ (.cons_cons _ (List.nil_sublist _)))))))))), ?_⟩
        refine dq 13 rfl (by kernel_rfl) (by kernel_rfl) (by kernel_rfl) rfl rfl (fun w hS => bd (cs := #[Ptr b22 0, I ((d : Int)), Ptr t26 0, Ptr b28 0, Ptr b29 0, Ptr b30 0, U16 (0), I (0), U32 (0), U64 (mnU nx 9223372036854775807), .bool (false)]) rfl rfl rfl (by kernel_rfl) ⟨rfl, rfl⟩) (hS.sublist (.cons _ (.cons _ (.cons _ (.cons _ (.cons _ (.cons _ (.cons _ (.cons_cons _ (List.nil_sublist _)))))))))) ?_
        refine dl 14 rfl (by kernel_rfl) ?_
        refine bxa hS rfl rfl rfl ?_
        intro b34 w hb34 hS
        refine ⟨fun _ => (hS.sublist (.cons _ (.cons _ (.cons _ (.cons _ (.cons _ (.cons _ (.cons _ (.cons _ (.cons_cons _ (List.nil_sublist _))))))))))), ?_⟩
        refine dl 15 rfl (by kernel_rfl) ?_
        refine asg rfl rfl rfl ?_
        refine ⟨fun h => (by cases h), ?_⟩
        refine dl 16 rfl (by kernel_rfl) ?_
        refine asg rfl rfl rfl ?_
        refine ⟨fun h => (by cases h), ?_⟩
        refine de (by kernel_rfl) ?_
        refine wq_then ?_
        refine wc_ret ?_
        refine fin2 (v := Ptr b34 0) (u := .nilIface) rfl rfl rfl ?_
        have e : decide (d = 0) = true := by rw [decide_eq_true (by omega)]
        have hS2 : St w0 [] ([(b34, .cells (#[Ptr b22 0, I ((d : Int)), Ptr t26 0, Ptr b28 0, Ptr b29 0, Ptr b30 0, U16 (0), I (0), U32 (0), U64 (mnU nx 9223372036854775807), .bool (false)]) 90), (b29, .cells (#[I (0), I (0), U64 (0)]) 155), (b28, .cells (#[U64 (mnU nx 9223372036854775807), U64 (0), .bool (false)]) 151), (t26, .cells (tableC c25 key) 139), (c25, .cells (cipherC key) 147), (b22, .cells (#[Str (adA ad), .bool (true), I (((0 : Nat) : Int)), .map (some m22)]) 135), (m22, mOb encS vI ([]))] ++ [(b30, .cells (#[(.pointer none)]) 158)]) w := St.toend (A := [(b34, .cells (#[Ptr b22 0, I ((d : Int)), Ptr t26 0, Ptr b28 0, Ptr b29 0, Ptr b30 0, U16 (0), I (0), U32 (0), U64 (mnU nx 9223372036854775807), .bool (false)]) 90), (b30, .cells (#[(.pointer none)]) 158), (b29, .cells (#[I (0), I (0), U64 (0)]) 155), (b28, .cells (#[U64 (mnU nx 9223372036854775807), U64 (0), .bool (false)]) 151), (t26, .cells (tableC c25 key) 139), (c25, .cells (cipherC key) 147), (b22, .cells (#[Str (adA ad), .bool (true), I (((0 : Nat) : Int)), .map (some m22)]) 135), (m22, mOb encS vI ([]))]) (R := []) ((hS.sublist (List.sublist_append_left [(b34, .cells (#[Ptr b22 0, I ((d : Int)), Ptr t26 0, Ptr b28 0, Ptr b29 0, Ptr b30 0, U16 (0), I (0), U32 (0), U64 (mnU nx 9223372036854775807), .bool (false)]) 90), (b30, .cells (#[(.pointer none)]) 158), (b29, .cells (#[I (0), I (0), U64 (0)]) 155), (b28, .cells (#[U64 (mnU nx 9223372036854775807), U64 (0), .bool (false)]) 151), (t26, .cells (tableC c25 key) 139), (c25, .cells (cipherC key) 147), (b22, .cells (#[Str (adA ad), .bool (true), I (((0 : Nat) : Int)), .map (some m22)]) 135), (m22, mOb encS vI ([]))] [_])).napp) 1 rfl
        exact ⟨_, _, rfl, ⟨_, rfl, b22, m22, b28, b29, b30, t26, c25, _, _, _, _, _, _, _, _, hd, ⟨_, .inl ⟨rfl, rfl⟩⟩, by rw [show (sesN key d ad nx).fx = true from e]; rfl⟩, hS2⟩
      · skip
        try simp only [SB] at hc2
        refine wc_skip ?_
        refine wq_then ?_
        refine rd mo 15 (fun w => St w0 [] [(b4, .cells (BV key) 22)] w) ?_
        have hS := hS.drew
        refine dq 0 rfl (by kernel_rfl) (by kernel_rfl) (by kernel_rfl) rfl rfl (fun w hS => mv rfl rfl rfl ⟨rfl, rfl⟩) (hS.sublist (.cons_cons _ (List.nil_sublist _))) ?_
        refine dq 1 rfl (by kernel_rfl) (by kernel_rfl) (by kernel_rfl) rfl rfl (fun w hS => mv rfl rfl rfl ⟨rfl, rfl⟩) (hS.sublist (.cons_cons _ (List.nil_sublist _))) ?_
        refine dq 3 rfl (by kernel_rfl) (by kernel_rfl) (by kernel_rfl) rfl rfl (fun w hS => mv rfl rfl rfl ⟨rfl, rfl⟩) (hS.sublist (.cons_cons _ (List.nil_sublist _))) ?_
        refine dq 4 rfl (by kernel_rfl) (by kernel_rfl) (by kernel_rfl) rfl rfl (fun w hS => la 0 ag22 hS rfl rfl rfl rfl (BV_size _) ⟨rfl, rfl⟩) (hS.sublist (.cons_cons _ (List.nil_sublist _))) ?_
        refine dq 7 rfl (by kernel_rfl) (by kernel_rfl) (by kernel_rfl) rfl rfl (fun w hS => mv rfl rfl rfl ⟨rfl, rfl⟩) (hS.sublist (.cons_cons _ (List.nil_sublist _))) ?_
        refine dq 11 rfl (by kernel_rfl) (by kernel_rfl) (by kernel_rfl) rfl rfl (fun w hS => mv rfl rfl rfl ⟨rfl, rfl⟩) (hS.sublist (.cons_cons _ (List.nil_sublist _))) ?_
        refine dq 12 rfl (by kernel_rfl) (by kernel_rfl) (by kernel_rfl) rfl rfl (fun w hS => minu (q := (9223372036854775807 : UInt64)) rfl rfl rfl rfl ⟨rfl, rfl⟩) (hS.sublist (.cons_cons _ (List.nil_sublist _))) ?_
        refine dl 2 rfl (by kernel_rfl) ?_
        refine cs cf24 hS rfl rfl rfl rfl rfl (sp_peer_New (ad) _) ?_
        rintro _ _ w ⟨b22, m22, rfl, rfl⟩ hS
        refine ⟨fun _ => (hS.sublist (.cons _ (.cons _ (.cons_cons _ (List.nil_sublist _))))), ?_⟩
        refine dl 5 rfl (by kernel_rfl) ?_
        refine cs cf27 hS rfl rfl rfl rfl rfl (sp_fast_New (key) _) ?_
        rintro _ _ w ⟨c25, rfl, rfl⟩ hS
        refine ⟨fun _ => (hS.sublist (.cons _ (.cons _ (.cons _ (.cons_cons _ (List.nil_sublist _)))))), ?_⟩
        refine dl 6 rfl (by kernel_rfl) ?_
        refine cs cf26 hS rfl rfl rfl rfl rfl (sp_table_New (c25) (_) (key) _ (hS.get 0 rfl)) ?_
        rintro _ _ w ⟨t26, rfl, rfl⟩ hS
        refine ⟨fun _ => (hS.sublist (.cons _ (.cons _ (.cons _ (.cons _ (.cons_cons _ (List.nil_sublist _))))))), ?_⟩
        refine dl 8 rfl (by kernel_rfl) ?_
        refine cs cf28 hS rfl rfl rfl rfl rfl (sp_counter_New (nx) _) ?_
        rintro _ _ w ⟨b28, rfl, rfl⟩ hS
        refine ⟨fun _ => (hS.sublist (.cons _ (.cons _ (.cons _ (.cons _ (.cons _ (.cons_cons _ (List.nil_sublist _)))))))), ?_⟩
        refine dl 9 rfl (by kernel_rfl) ?_
        refine cs cf29 hS rfl rfl rfl rfl rfl (sp_filter_New _) ?_
        rintro _ _ w ⟨b29, rfl, rfl⟩ hS
        refine ⟨fun _ => (hS.sublist (.cons _ (.cons _ (.cons _ (.cons _ (.cons _ (.cons _ (.cons_cons _ (List.nil_sublist _))))))))), ?_⟩
        refine dl 10 rfl (by kernel_rfl) ?_
        refine cs cf30 hS rfl rfl rfl rfl rfl (sp_echo_New _) ?_
        rintro _ _ w ⟨b30, rfl, rfl⟩ hS
        refine ⟨fun _ => (hS.sublist (.cons _ (.cons _ (.cons _ (.cons _ (.cons _ (.cons _ (.cons _ (.cons_cons _ (List.nil_sublist _)))))))))), ?_⟩
        refine dq 13 rfl (by kernel_rfl) (by kernel_rfl) (by kernel_rfl) rfl rfl (fun w hS => bd (cs := #[Ptr b22 0, I ((d : Int)), Ptr t26 0, Ptr b28 0, Ptr b29 0, Ptr b30 0, U16 (0), I (0), U32 (0), U64 (mnU nx 9223372036854775807), .bool (false)]) rfl rfl rfl (by kernel_rfl) ⟨rfl, rfl⟩) (hS.sublist (.cons _ (.cons _ (.cons _ (.cons _ (.cons _ (.cons _ (.cons _ (.cons_cons _ (List.nil_sublist _)))))))))) ?_
        refine dl 14 rfl (by kernel_rfl) ?_
        refine bxa hS rfl rfl rfl ?_
        intro b34 w hb34 hS
        refine ⟨fun _ => (hS.sublist (.cons _ (.cons _ (.cons _ (.cons _ (.cons _ (.cons _ (.cons _ (.cons _ (.cons_cons _ (List.nil_sublist _))))))))))), ?_⟩
        refine dl 15 rfl (by kernel_rfl) ?_
        refine asg rfl rfl rfl ?_
        refine ⟨fun h => (by cases h), ?_⟩
        refine dl 16 rfl (by kernel_rfl) ?_
        refine asg rfl rfl rfl ?_
        refine ⟨fun h => (by cases h), ?_⟩
        refine de (by kernel_rfl) ?_
        refine wq_then ?_
        refine wc_ret ?_
        refine fin2 (v := Ptr b34 0) (u := .nilIface) rfl rfl rfl ?_
        have e : decide (d = 0) = false := by rw [decide_eq_false (by omega)]
        have hS2 : St w0 [] ([(b34, .cells (#[Ptr b22 0, I ((d : Int)), Ptr t26 0, Ptr b28 0, Ptr b29 0, Ptr b30 0, U16 (0), I (0), U32 (0), U64 (mnU nx 9223372036854775807), .bool (false)]) 90), (b29, .cells (#[I (0), I (0), U64 (0)]) 155), (b28, .cells (#[U64 (mnU nx 9223372036854775807), U64 (0), .bool (false)]) 151), (t26, .cells (tableC c25 key) 139), (c25, .cells (cipherC key) 147), (b22, .cells (#[Str (adA ad), .bool (false), I (((0 : Nat) : Int)), .map (some m22)]) 135), (m22, mOb encS vI ([]))] ++ [(b30, .cells (#[(.pointer none)]) 158)]) w := St.toend (A := [(b34, .cells (#[Ptr b22 0, I ((d : Int)), Ptr t26 0, Ptr b28 0, Ptr b29 0, Ptr b30 0, U16 (0), I (0), U32 (0), U64 (mnU nx 9223372036854775807), .bool (false)]) 90), (b30, .cells (#[(.pointer none)]) 158), (b29, .cells (#[I (0), I (0), U64 (0)]) 155), (b28, .cells (#[U64 (mnU nx 9223372036854775807), U64 (0), .bool (false)]) 151), (t26, .cells (tableC c25 key) 139), (c25, .cells (cipherC key) 147), (b22, .cells (#[Str (adA ad), .bool (false), I (((0 : Nat) : Int)), .map (some m22)]) 135), (m22, mOb encS vI ([]))]) (R := []) ((hS.sublist (List.sublist_append_left [(b34, .cells (#[Ptr b22 0, I ((d : Int)), Ptr t26 0, Ptr b28 0, Ptr b29 0, Ptr b30 0, U16 (0), I (0), U32 (0), U64 (mnU nx 9223372036854775807), .bool (false)]) 90), (b30, .cells (#[(.pointer none)]) 158), (b29, .cells (#[I (0), I (0), U64 (0)]) 155), (b28, .cells (#[U64 (mnU nx 9223372036854775807), U64 (0), .bool (false)]) 151), (t26, .cells (tableC c25 key) 139), (c25, .cells (cipherC key) 147), (b22, .cells (#[Str (adA ad), .bool (false), I (((0 : Nat) : Int)), .map (some m22)]) 135), (m22, mOb encS vI ([]))] [_])).napp) 1 rfl
        exact ⟨_, _, rfl, ⟨_, rfl, b22, m22, b28, b29, b30, t26, c25, _, _, _, _, _, _, _, _, hd, ⟨_, .inl ⟨rfl, rfl⟩⟩, by rw [show (sesN key d ad nx).fx = false from e]; rfl⟩, hS2⟩
  · skip
    try simp only [SB] at hb1
    refine no rfl rfl ?_
    refine no rfl rfl ?_
    refine pk_f rfl rfl rfl rfl ?_
    refine wq_then ?_
    refine wc_if_f rfl ?_
    refine wc_skip ?_
    refine wq_then ?_
    refine rg ?_
    refine asg rfl rfl rfl ?_
    refine wq_then ?_
    refine wc_seq ?_
    refine rg ?_
    refine mv rfl rfl rfl ?_
    refine eqi rfl rfl rfl rfl ?_
    refine wq_then ?_
    refine wc_if rfl (fun hc3 => ?_) (fun hc3 => ?_)
    · skip
      try simp only [SB] at hc3
      refine wc_region ?_
      refine asg rfl rfl rfl ?_
      refine wq_then ?_
      refine rd mo 15 (fun w => St w0 [] [(b4, .cells (BV key) 22)] w) ?_
      have hS := hS.drew
      refine dq 0 rfl (by kernel_rfl) (by kernel_rfl) (by kernel_rfl) rfl rfl (fun w hS => mv rfl rfl rfl ⟨rfl, rfl⟩) (hS.sublist (.cons_cons _ (List.nil_sublist _))) ?_
      refine dq 1 rfl (by kernel_rfl) (by kernel_rfl) (by kernel_rfl) rfl rfl (fun w hS => mv rfl rfl rfl ⟨rfl, rfl⟩) (hS.sublist (.cons_cons _ (List.nil_sublist _))) ?_
      refine dq 3 rfl (by kernel_rfl) (by kernel_rfl) (by kernel_rfl) rfl rfl (fun w hS => mv rfl rfl rfl ⟨rfl, rfl⟩) (hS.sublist (.cons_cons _ (List.nil_sublist _))) ?_
      refine dq 4 rfl (by kernel_rfl) (by kernel_rfl) (by kernel_rfl) rfl rfl (fun w hS => la 0 ag22 hS rfl rfl rfl rfl (BV_size _) ⟨rfl, rfl⟩) (hS.sublist (.cons_cons _ (List.nil_sublist _))) ?_
      refine dq 7 rfl (by kernel_rfl) (by kernel_rfl) (by kernel_rfl) rfl rfl (fun w hS => mv rfl rfl rfl ⟨rfl, rfl⟩) (hS.sublist (.cons_cons _ (List.nil_sublist _))) ?_
      refine dq 11 rfl (by kernel_rfl) (by kernel_rfl) (by kernel_rfl) rfl rfl (fun w hS => mv rfl rfl rfl ⟨rfl, rfl⟩) (hS.sublist (.cons_cons _ (List.nil_sublist _))) ?_
      refine dq 12 rfl (by kernel_rfl) (by kernel_rfl) (by kernel_rfl) rfl rfl (fun w hS => minu (q := (9223372036854775807 : UInt64)) rfl rfl rfl rfl ⟨rfl, rfl⟩) (hS.sublist (.cons_cons _ (List.nil_sublist _))) ?_
      refine dl 2 rfl (by kernel_rfl) ?_
      refine cs cf25 hS rfl rfl rfl rfl rfl (sp_peer_Fixed (ad) _) ?_
      rintro _ _ w ⟨b22, m22, rfl, rfl⟩ hS
      refine ⟨fun _ => (hS.sublist (.cons _ (.cons _ (.cons_cons _ (List.nil_sublist _))))), ?_⟩
      refine dl 5 rfl (by kernel_rfl) ?_
      refine cs cf27 hS rfl rfl rfl rfl rfl (sp_fast_New (key) _) ?_
      rintro _ _ w ⟨c25, rfl, rfl⟩ hS
      refine ⟨fun _ => (hS.sublist (.cons _ (.cons _ (.cons _ (.cons_cons _ (List.nil_sublist _)))))), ?_⟩
      refine dl 6 rfl (by kernel_rfl) ?_
      refine cs cf26 hS rfl rfl rfl rfl rfl (sp_table_New (c25) (_) (key) _ (hS.get 0 rfl)) ?_
      rintro _ _ w ⟨t26, rfl, rfl⟩ hS
      refine ⟨fun _ => (hS.sublist (.cons _ (.cons _ (.cons _ (.cons _ (.cons_cons _ (List.nil_sublist _))))))), ?_⟩
      refine dl 8 rfl (by kernel_rfl) ?_
      refine cs cf28 hS rfl rfl rfl rfl rfl (sp_counter_New (nx) _) ?_
      rintro _ _ w ⟨b28, rfl, rfl⟩ hS
      refine ⟨fun _ => (hS.sublist (.cons _ (.cons _ (.cons _ (.cons _ (.cons _ (.cons_cons _ (List.nil_sublist _)))))))), ?_⟩
      refine dl 9 rfl (by kernel_rfl) ?_
      refine cs cf29 hS rfl rfl rfl rfl rfl (sp_filter_New _) ?_
      rintro _ _ w ⟨b29, rfl, rfl⟩ hS
      refine ⟨fun _ => (hS.sublist (.cons _ (.cons _ (.cons _ (.cons _ (.cons _ (.cons _ (.cons_cons _ (List.nil_sublist _))))))))), ?_⟩
      refine dl 10 rfl (by kernel_rfl) ?_
      refine cs cf30 hS rfl rfl rfl rfl rfl (sp_echo_New _) ?_
      rintro _ _ w ⟨b30, rfl, rfl⟩ hS
      refine ⟨fun _ => (hS.sublist (.cons _ (.cons _ (.cons _ (.cons _ (.cons _ (.cons _ (.cons _ (.cons_cons _ (List.nil_sublist _)))))))))), ?_⟩
      refine dq 13 rfl (by kernel_rfl) (by kernel_rfl) (by kernel_rfl) rfl rfl (fun w hS => bd (cs := #[Ptr b22 0, I ((d : Int)), Ptr t26 0, Ptr b28 0, Ptr b29 0, Ptr b30 0, U16 (0), I (0), U32 (0), U64 (mnU nx 9223372036854775807), .bool (false)]) rfl rfl rfl (by kernel_rfl) ⟨rfl, rfl⟩) (hS.sublist (.cons _ (.cons _ (.cons _ (.cons _ (.cons _ (.cons _ (.cons _ (.cons_cons _ (List.nil_sublist _)))))))))) ?_
      refine dl 14 rfl (by kernel_rfl) ?_
      refine bxa hS rfl rfl rfl ?_
      intro b34 w hb34 hS
      refine ⟨fun _ => (hS.sublist (.cons _ (.cons _ (.cons _ (.cons _ (.cons _ (.cons _ (.cons _ (.cons _ (.cons_cons _ (List.nil_sublist _))))))))))), ?_⟩
      refine dl 15 rfl (by kernel_rfl) ?_
      refine asg rfl rfl rfl ?_
      refine ⟨fun h => (by cases h), ?_⟩
      refine dl 16 rfl (by kernel_rfl) ?_
      refine asg rfl rfl rfl ?_
      refine ⟨fun h => (by cases h), ?_⟩
      refine de (by kernel_rfl) ?_
      refine wq_then ?_
      refine wc_ret ?_
      refine fin2 (v := Ptr b34 0) (u := .nilIface) rfl rfl rfl ?_
      have e : decide (d = 0) = true := by rw [decide_eq_true (by omega)]
      have hS2 : St w0 [] ([(b34, .cells (#[Ptr b22 0, I ((d : Int)), Ptr t26 0, Ptr b28 0, Ptr b29 0, Ptr b30 0, U16 (0), I (0), U32 (0), U64 (mnU nx 9223372036854775807), .bool (false)]) 90), (b29, .cells (#[I (0), I (0), U64 (0)]) 155), (b28, .cells (#[U64 (mnU nx 9223372036854775807), U64 (0), .bool (false)]) 151), (t26, .cells (tableC c25 key) 139), (c25, .cells (cipherC key) 147), (b22, .cells (#[Str (adA ad), .bool (true), I (((0 : Nat) : Int)), .map (some m22)]) 135), (m22, mOb encS vI ([]))] ++ [(b30, .cells (#[(.pointer none)]) 158)]) w := St.toend (A := [(b34, .cells (#[Ptr b22 0, I ((d : Int)), Ptr t26 0, Ptr b28 0, Ptr b29 0, Ptr b30 0, U16 (0), I (0), U32 (0), U64 (mnU nx 9223372036854775807), .bool (false)]) 90), (b30, .cells (#[(.pointer none)]) 158), (b29, .cells (#[I (0), I (0), U64 (0)]) 155), (b28, .cells (#[U64 (mnU nx 9223372036854775807), U64 (0), .bool (false)]) 151), (t26, .cells (tableC c25 key) 139), (c25, .cells (cipherC key) 147), (b22, .cells (#[Str (adA ad), .bool (true), I (((0 : Nat) : Int)), .map (some m22)]) 135), (m22, mOb encS vI ([]))]) (R := []) ((hS.sublist (List.sublist_append_left [(b34, .cells (#[Ptr b22 0, I ((d : Int)), Ptr t26 0, Ptr b28 0, Ptr b29 0, Ptr b30 0, U16 (0), I (0), U32 (0), U64 (mnU nx 9223372036854775807), .bool (false)]) 90), (b30, .cells (#[(.pointer none)]) 158), (b29, .cells (#[I (0), I (0), U64 (0)]) 155), (b28, .cells (#[U64 (mnU nx 9223372036854775807), U64 (0), .bool (false)]) 151), (t26, .cells (tableC c25 key) 139), (c25, .cells (cipherC key) 147), (b22, .cells (#[Str (adA ad), .bool (true), I (((0 : Nat) : Int)), .map (some m22)]) 135), (m22, mOb encS vI ([]))] [_])).napp) 1 rfl
      exact ⟨_, _, rfl, ⟨_, rfl, b22, m22, b28, b29, b30, t26, c25, _, _, _, _, _, _, _, _, hd, ⟨_, .inl ⟨rfl, rfl⟩⟩, by rw [show (sesN key d ad nx).fx = true from e]; rfl⟩, hS2⟩
    · skip
      try simp only [SB] at hc3
      refine wc_skip ?_
      refine wq_then ?_
      refine rd mo 15 (fun w => St w0 [] [(b4, .cells (BV key) 22)] w) ?_
      have hS := hS.drew
      refine dq 0 rfl (by kernel_rfl) (by kernel_rfl) (by kernel_rfl) rfl rfl (fun w hS => mv rfl rfl rfl ⟨rfl, rfl⟩) (hS.sublist (.cons_cons _ (List.nil_sublist _))) ?_
      refine dq 1 rfl (by kernel_rfl) (by kernel_rfl) (by kernel_rfl) rfl rfl (fun w hS => mv rfl rfl rfl ⟨rfl, rfl⟩) (hS.sublist (.cons_cons _ (List.nil_sublist _))) ?_
      refine dq 3 rfl (by kernel_rfl) (by kernel_rfl) (by kernel_rfl) rfl rfl (fun w hS => mv rfl rfl rfl ⟨rfl, rfl⟩) (hS.sublist (.cons_cons _ (List.nil_sublist _))) ?_
      refine dq 4 rfl (by kernel_rfl) (by kernel_rfl) (by kernel_rfl) rfl rfl (fun w hS => la 0 ag22 hS rfl rfl rfl rfl (BV_size _) ⟨rfl, rfl⟩) (hS.sublist (.cons_cons _ (List.nil_sublist _))) ?_
      refine dq 7 rfl (by kernel_rfl) (by kernel_rfl) (by kernel_rfl) rfl rfl (fun w hS => mv rfl rfl rfl ⟨rfl, rfl⟩) (hS.sublist (.cons_cons _ (List.nil_sublist _))) ?_
      refine dq 11 rfl (by kernel_rfl) (by kernel_rfl) (by kernel_rfl) rfl rfl (fun w hS => mv rfl rfl rfl ⟨rfl, rfl⟩) (hS.sublist (.cons_cons _ (List.nil_sublist _))) ?_
      refine dq 12 rfl (by kernel_rfl) (by kernel_rfl) (by kernel_rfl) rfl rfl (fun w hS => minu (q := (9223372036854775807 : UInt64)) rfl rfl rfl rfl ⟨rfl, rfl⟩) (hS.sublist (.cons_cons _ (List.nil_sublist _))) ?_
      refine dl 2 rfl (by kernel_rfl) ?_
      refine cs cf24 hS rfl rfl rfl rfl rfl (sp_peer_New (ad) _) ?_
      rintro _ _ w ⟨b22, m22, rfl, rfl⟩ hS
      refine ⟨fun _ => (hS.sublist (.cons _ (.cons _ (.cons_cons _ (List.nil_sublist _))))), ?_⟩
      refine dl 5 rfl (by kernel_rfl) ?_
      refine cs cf27 hS rfl rfl rfl rfl rfl (sp_fast_New (key) _) ?_
      rintro _ _ w ⟨c25, rfl, rfl⟩ hS
      refine ⟨fun _ => (hS.sublist (.cons _ (.cons _ (.cons _ (.cons_cons _ (List.nil_sublist _)))))), ?_⟩
      refine dl 6 rfl (by kernel_rfl) ?_
      refine cs cf26 hS rfl rfl rfl rfl rfl (sp_table_New (c25) (_) (key) _ (hS.get 0 rfl)) ?_
      rintro _ _ w ⟨t26, rfl, rfl⟩ hS
      refine ⟨fun _ => (hS.sublist (.cons _ (.cons _ (.cons _ (.cons _ (.cons_cons _ (List.nil_sublist _))))))), ?_⟩
      refine dl 8 rfl (by kernel_rfl) ?_
      refine cs cf28 hS rfl rfl rfl rfl rfl (sp_counter_New (nx) _) ?_
      rintro _ _ w ⟨b28, rfl, rfl⟩ hS
      refine ⟨fun _ => (hS.sublist (.cons _ (.cons _ (.cons _ (.cons _ (.cons _ (.cons_cons _ (List.nil_sublist _)))))))), ?_⟩
      refine dl 9 rfl (by kernel_rfl) ?_
      refine cs cf29 hS rfl rfl rfl rfl rfl (sp_filter_New _) ?_
      rintro _ _ w ⟨b29, rfl, rfl⟩ hS
      refine ⟨fun _ => (hS.sublist (.cons _ (.cons _ (.cons _ (.cons _ (.cons _ (.cons _ (.cons_cons _ (List.nil_sublist _))))))))), ?_⟩
      refine dl 10 rfl (by kernel_rfl) ?_
      refine cs cf30 hS rfl rfl rfl rfl rfl (sp_echo_New _) ?_
      rintro _ _ w ⟨b30, rfl, rfl⟩ hS
      refine ⟨fun _ => (hS.sublist (.cons _ (.cons _ (.cons _ (.cons _ (.cons _ (.cons _ (.cons _ (.cons_cons _ (List.nil_sublist _)))))))))), ?_⟩
      refine dq 13 rfl (by kernel_rfl) (by kernel_rfl) (by kernel_rfl) rfl rfl (fun w hS => bd (cs := #[Ptr b22 0, I ((d : Int)), Ptr t26 0, Ptr b28 0, Ptr b29 0, Ptr b30 0, U16 (0), I (0), U32 (0), U64 (mnU nx 9223372036854775807), .bool (false)]) rfl rfl rfl (by kernel_rfl) ⟨rfl, rfl⟩) (hS.sublist (.cons _ (.cons _ (.cons _ (.cons _ (.cons _ (.cons _ (.cons _ (.cons_cons _ (List.nil_sublist _)))))))))) ?_
      refine dl 14 rfl (by kernel_rfl) ?_
      refine bxa hS rfl rfl rfl ?_
      intro b34 w hb34 hS
      refine ⟨fun _ => (hS.sublist (.cons _ (.cons _ (.cons _ (.cons _ (.cons _ (.cons _ (.cons _ (.cons _ (.cons_cons _ (List.nil_sublist _))))))))))), ?_⟩
      refine dl 15 rfl (by kernel_rfl) ?_
      refine asg rfl rfl rfl ?_
      refine ⟨fun h => (by cases h), ?_⟩
      refine dl 16 rfl (by kernel_rfl) ?_
      refine asg rfl rfl rfl ?_
      refine ⟨fun h => (by cases h), ?_⟩
      refine de (by kernel_rfl) ?_
      refine wq_then ?_
      refine wc_ret ?_
      refine fin2 (v := Ptr b34 0) (u := .nilIface) rfl rfl rfl ?_
      have e : decide (d = 0) = false := by rw [decide_eq_false (by omega)]
      have hS2 : St w0 [] ([(b34, .cells (#[Ptr b22 0, I ((d : Int)), Ptr t26 0, Ptr b28 0, Ptr b29 0, Ptr b30 0, U16 (0), I (0), U32 (0), U64 (mnU nx 9223372036854775807), .bool (false)]) 90), (b29, .cells (#[I (0), I (0), U64 (0)]) 155), (b28, .cells (#[U64 (mnU nx 9223372036854775807), U64 (0), .bool (false)]) 151), (t26, .cells (tableC c25 key) 139), (c25, .cells (cipherC key) 147), (b22, .cells (#[Str (adA ad), .bool (false), I (((0 : Nat) : Int)), .map (some m22)]) 135), (m22, mOb encS vI ([]))] ++ [(b30, .cells (#[(.pointer none)]) 158)]) w := St.toend (A := [(b34, .cells (#[Ptr b22 0, I ((d : Int)), Ptr t26 0, Ptr b28 0, Ptr b29 0, Ptr b30 0, U16 (0), I (0), U32 (0), U64 (mnU nx 9223372036854775807), .bool (false)]) 90), (b30, .cells (#[(.pointer none)]) 158), (b29, .cells (#[I (0), I (0), U64 (0)]) 155), (b28, .cells (#[U64 (mnU nx 9223372036854775807), U64 (0), .bool (false)]) 151), (t26, .cells (tableC c25 key) 139), (c25, .cells (cipherC key) 147), (b22, .cells (#[Str (adA ad), .bool (false), I (((0 : Nat) : Int)), .map (some m22)]) 135), (m22, mOb encS vI ([]))]) (R := []) ((hS.sublist (List.sublist_append_left [(b34, .cells (#[Ptr b22 0, I ((d : Int)), Ptr t26 0, Ptr b28 0, Ptr b29 0, Ptr b30 0, U16 (0), I (0), U32 (0), U64 (mnU nx 9223372036854775807), .bool (false)]) 90), (b30, .cells (#[(.pointer none)]) 158), (b29, .cells (#[I (0), I (0), U64 (0)]) 155), (b28, .cells (#[U64 (mnU nx 9223372036854775807), U64 (0), .bool (false)]) 151), (t26, .cells (tableC c25 key) 139), (c25, .cells (cipherC key) 147), (b22, .cells (#[Str (adA ad), .bool (false), I (((0 : Nat) : Int)), .map (some m22)]) 135), (m22, mOb encS vI ([]))] [_])).napp) 1 rfl
      exact ⟨_, _, rfl, ⟨_, rfl, b22, m22, b28, b29, b30, t26, c25, _, _, _, _, _, _, _, _, hd, ⟨_, .inl ⟨rfl, rfl⟩⟩, by rw [show (sesN key d ad nx).fx = false from e]; rfl⟩, hS2⟩
end Go.Proofs.XS

/- walks -/
namespace Go.Proofs.XS
open Go Go.X Go.Proofs
set_option maxRecDepth 100000 in
theorem sp_NewBad (key : V8 16) (d : Int) (ad : List UInt8) (nx : UInt64) (w0 : World) (hd : d ≠ 0) (hd1 : d ≠ 1) : Calls Tryz.prog 9 #[.agg (BV key), I d, Str ad, U64 nx] w0 (Ret w0 (.tuple #[.pointer none, errV 33 8])) := by
  refine enter (args := [.agg (BV key), I d, Str ad, U64 nx]) Tryz.func9 rfl rfl ?_
  refine startw fun w hS => ?_
  refine rg ?_
  refine bxa hS rfl rfl rfl ?_
  intro b4 w hb4 hS
  refine asg rfl rfl rfl ?_
  refine asg rfl rfl rfl ?_
  refine wq_then ?_
  refine wc_seq ?_
  refine rg ?_
  refine mv rfl rfl rfl ?_
  refine nei rfl rfl rfl rfl ?_
  refine mv rfl rfl rfl ?_
  refine spl 13 rfl (fun hb1 => ?_) (fun hb1 => ?_)
  · skip
    try simp only [SB] at hb1
    refine mv rfl rfl rfl ?_
    refine nei rfl rfl rfl rfl ?_
    refine pk_t rfl rfl rfl rfl ?_
    refine wq_then ?_
    refine wc_if rfl (fun hc1 => ?_) (fun hc1 => ?_)
    · skip
      try simp only [SB] at hc1
      refine rg ?_
      refine mki cc33 rfl rfl rfl ?_
      refine asg rfl rfl rfl ?_
      refine asg rfl rfl rfl ?_
      refine wq_then ?_
      refine wc_ret ?_
      refine q_then_ret ?_
      refine fin2 (v := (.pointer none)) (u := (.iface 33 (I (8)))) rfl rfl rfl ?_
      exact ⟨rfl, hS.drop⟩
    · skip
      try simp only [SB] at hc1
      exfalso; omega
  · skip
    try simp only [SB] at hb1
    exfalso; omega
end Go.Proofs.XS

/- walks -/
namespace Go.Proofs.XS
open Go Go.X Go.Proofs
set_option maxRecDepth 1000000 in
theorem sz76 : Sz Tryz.prog 76 1 := by unfold Sz; kernel_rfl
set_option maxRecDepth 1000000 in
theorem sc76 : Sc Tryz.prog 76 := ⟨_, Tryz.underlying76, rfl⟩
set_option maxRecDepth 1000000 in
theorem cf31 : Callable Tryz.prog 31 := ⟨_, Tryz.func31, by kernel_rfl, rfl⟩
set_option maxRecDepth 1000000 in
theorem cf35 : Callable Tryz.prog 35 := ⟨_, Tryz.func35, by kernel_rfl, rfl⟩
set_option maxRecDepth 1000000 in
theorem sl160 : SlT Tryz.prog 160 95 1 8 (.nilFunc) := ⟨Tryz.underlying160, _, rfl, rfl, by kernel_rfl, by kernel_rfl, rfl⟩
set_option maxRecDepth 1000000 in
theorem cf34 : Callable Tryz.prog 34 := ⟨_, Tryz.func34, by kernel_rfl, rfl⟩
set_option maxRecDepth 1000000 in
theorem cf32 : Callable Tryz.prog 32 := ⟨_, Tryz.func32, by kernel_rfl, rfl⟩
set_option maxRecDepth 1000000 in
theorem cf78 : Callable Tryz.prog 78 := ⟨_, Tryz.func78, by kernel_rfl, rfl⟩
end Go.Proofs.XS

/- walks -/
namespace Go.Proofs.XS
open Go Go.X Go.Proofs
set_option maxRecDepth 1000000 in
theorem zr27 : Zr Tryz.prog 27 (.nilIface) := by unfold Zr; kernel_rfl
set_option maxRecDepth 1000000 in
theorem sz27 : Sz Tryz.prog 27 1 := by unfold Sz; kernel_rfl
set_option maxRecDepth 1000000 in
theorem cf50 : Callable Tryz.prog 50 := ⟨_, Tryz.func50, by kernel_rfl, rfl⟩
set_option maxRecDepth 1000000 in
theorem sz83 : Sz Tryz.prog 83 1 := by unfold Sz; kernel_rfl
set_option maxRecDepth 1000000 in
theorem sc83 : Sc Tryz.prog 83 := ⟨_, Tryz.underlying83, rfl⟩
set_option maxRecDepth 1000000 in
theorem cf51 : Callable Tryz.prog 51 := ⟨_, Tryz.func51, by kernel_rfl, rfl⟩
set_option maxRecDepth 1000000 in
theorem cf53 : Callable Tryz.prog 53 := ⟨_, Tryz.func53, by kernel_rfl, rfl⟩
set_option maxRecDepth 1000000 in
theorem cf54 : Callable Tryz.prog 54 := ⟨_, Tryz.func54, by kernel_rfl, rfl⟩
set_option maxRecDepth 1000000 in
theorem cf55 : Callable Tryz.prog 55 := ⟨_, Tryz.func55, by kernel_rfl, rfl⟩
set_option maxRecDepth 1000000 in
theorem cf56 : Callable Tryz.prog 56 := ⟨_, Tryz.func56, by kernel_rfl, rfl⟩
set_option maxRecDepth 1000000 in
theorem sz88 : Sz Tryz.prog 88 3 := by unfold Sz; kernel_rfl
set_option maxRecDepth 1000000 in
theorem cf57 : Callable Tryz.prog 57 := ⟨_, Tryz.func57, by kernel_rfl, rfl⟩
set_option maxRecDepth 1000000 in
theorem cf58 : Callable Tryz.prog 58 := ⟨_, Tryz.func58, by kernel_rfl, rfl⟩
end Go.Proofs.XS

/- walks -/
namespace Go.Proofs.XS
open Go Go.X Go.Proofs
set_option maxRecDepth 100000 in
theorem sp_echo_Rtt_Last (s E : Nat) (v0 v1 v2 v3 v4 v5 v9 v10 : Value) (rl : UInt16) (rc : Nat) (re : UInt32) (w0 : World) (hs : w0.heap[s]? = some (.cells (#[v0, v1, v2, v3, v4, v5, U16 rl, I (rc : Int), U32 re, v9, v10]) E)) : Calls Tryz.prog 46 #[Ptr s 6] w0 (Ret w0 (.tuple #[U16 rl, .bool (decide ((rc : Int) > 0))])) := by
  refine enter (args := [Ptr s 6]) Tryz.func46 rfl rfl ?_
  refine startw fun w hS => ?_
  refine rg ?_
  refine asg rfl rfl rfl ?_
  refine asg rfl rfl rfl ?_
  refine wq_then ?_
  refine wc_seq ?_
  refine rg ?_
  refine mv rfl rfl rfl ?_
  refine eqpn Tryz.underlying175 rfl rfl rfl rfl ?_
  refine wq_then ?_
  refine wc_if_f rfl ?_
  refine wc_skip ?_
  refine wq_then ?_
  refine rd mo 10 (fun w => St w0 [] [] w) ?_
  have hS := hS.drew
  refine dq 0 rfl (by kernel_rfl) (by kernel_rfl) (by kernel_rfl) rfl rfl (fun w hS => mv rfl rfl rfl ⟨rfl, rfl⟩) hS ?_
  refine dq 1 rfl (by kernel_rfl) (by kernel_rfl) (by kernel_rfl) rfl rfl (fun w hS => nilp rfl rfl rfl ⟨rfl, rfl⟩) hS ?_
  refine dq 2 rfl (by kernel_rfl) (by kernel_rfl) (by kernel_rfl) rfl rfl (fun w hS => fan (0) (6) Tryz.underlying88 rfl sz36 (by decide) rfl rfl rfl rfl (by omega) ⟨rfl, rfl⟩) hS ?_
  refine dq 3 rfl (by kernel_rfl) (by kernel_rfl) (by kernel_rfl) rfl rfl (fun w hS => lod hs List.not_mem_nil sc36 hS rfl rfl rfl rfl ⟨rfl, rfl⟩) hS ?_
  refine dq 4 rfl (by kernel_rfl) (by kernel_rfl) (by kernel_rfl) rfl rfl (fun w hS => mv rfl rfl rfl ⟨rfl, rfl⟩) hS ?_
  refine dq 5 rfl (by kernel_rfl) (by kernel_rfl) (by kernel_rfl) rfl rfl (fun w hS => nilp rfl rfl rfl ⟨rfl, rfl⟩) hS ?_
  refine dq 6 rfl (by kernel_rfl) (by kernel_rfl) (by kernel_rfl) rfl rfl (fun w hS => fan (1) (7) Tryz.underlying88 rfl sz3 (by decide) rfl rfl rfl rfl (by omega) ⟨rfl, rfl⟩) hS ?_
  refine dq 7 rfl (by kernel_rfl) (by kernel_rfl) (by kernel_rfl) rfl rfl (fun w hS => lod hs List.not_mem_nil sc3 hS rfl rfl rfl rfl ⟨rfl, rfl⟩) hS ?_
  refine dq 8 rfl (by kernel_rfl) (by kernel_rfl) (by kernel_rfl) rfl rfl (fun w hS => gtr rfl rfl rfl rfl ⟨rfl, rfl⟩) hS ?_
  refine dq 9 rfl (by kernel_rfl) (by kernel_rfl) (by kernel_rfl) rfl rfl (fun w hS => asg rfl rfl rfl ⟨rfl, rfl⟩) hS ?_
  refine dl 10 rfl (by kernel_rfl) ?_
  refine asg rfl rfl rfl ?_
  refine ⟨fun h => (by cases h), ?_⟩
  refine de (by kernel_rfl) ?_
  refine wq_then ?_
  refine wc_ret ?_
  refine fin2 (v := U16 (rl)) (u := .bool (decide ((rc : Int) > 0))) rfl rfl rfl ?_
  exact ⟨rfl, hS.drop⟩
end Go.Proofs.XS

/- walks -/
namespace Go.Proofs.XS
open Go Go.X Go.Proofs
set_option maxRecDepth 100000 in
theorem sp_echo_Rtt_Count (s E : Nat) (v0 v1 v2 v3 v4 v5 v9 v10 : Value) (rl : UInt16) (rc : Nat) (re : UInt32) (w0 : World) (hs : w0.heap[s]? = some (.cells (#[v0, v1, v2, v3, v4, v5, U16 rl, I (rc : Int), U32 re, v9, v10]) E)) : Calls Tryz.prog 43 #[Ptr s 6] w0 (Ret w0 (I (rc : Int))) := by
  refine enter (args := [Ptr s 6]) Tryz.func43 rfl rfl ?_
  refine startw fun w hS => ?_
  refine rg ?_
  refine asg rfl rfl rfl ?_
  refine wq_then ?_
  refine wc_seq ?_
  refine rg ?_
  refine mv rfl rfl rfl ?_
  refine eqpn Tryz.underlying175 rfl rfl rfl rfl ?_
  refine wq_then ?_
  refine wc_if_f rfl ?_
  refine wc_skip ?_
  refine wq_then ?_
  refine rg ?_
  refine mv rfl rfl rfl ?_
  refine nilp rfl rfl rfl ?_
  refine fan (1) (7) Tryz.underlying88 rfl sz3 (by decide) rfl rfl rfl rfl (by omega) ?_
  refine lod hs List.not_mem_nil sc3 hS rfl rfl rfl rfl ?_
  refine asg rfl rfl rfl ?_
  refine wq_then ?_
  refine wc_ret ?_
  refine fin1 (v := I ((rc : Int))) rfl rfl ?_
  exact ⟨rfl, hS.drop⟩
end Go.Proofs.XS

/- walks -/
namespace Go.Proofs.XS
open Go Go.X Go.Proofs
set_option maxRecDepth 100000 in
theorem sp_counter_Counter_Given (pc E : Nat) (nx gvn : UInt64) (cl : Bool) (w0 : World) (hpc : w0.heap[pc]? = some (.cells (#[U64 nx, U64 gvn, .bool cl]) E)) : Calls Tryz.prog 41 #[Ptr pc 0] w0 (Ret w0 (U64 gvn)) := by
  refine enter (args := [Ptr pc 0]) Tryz.func41 rfl rfl ?_
  refine startw fun w hS => ?_
  refine rg ?_
  refine asg rfl rfl rfl ?_
  refine wq_then ?_
  refine wc_seq ?_
  refine rg ?_
  refine mv rfl rfl rfl ?_
  refine eqpn Tryz.underlying81 rfl rfl rfl rfl ?_
  refine wq_then ?_
  refine wc_if_f rfl ?_
  refine wc_skip ?_
  refine wq_then ?_
  refine rg ?_
  refine mv rfl rfl rfl ?_
  refine nilp rfl rfl rfl ?_
  refine fan (1) (1) Tryz.underlying151 rfl sz24 (by decide) rfl rfl rfl rfl (by omega) ?_
  refine lod hpc List.not_mem_nil sc24 hS rfl rfl rfl rfl ?_
  refine asg rfl rfl rfl ?_
  refine wq_then ?_
  refine wc_ret ?_
  refine fin1 (v := U64 (gvn)) rfl rfl ?_
  exact ⟨rfl, hS.drop⟩
end Go.Proofs.XS

/- walks -/
namespace Go.Proofs.XS
open Go Go.X Go.Proofs
set_option maxRecDepth 100000 in
theorem sp_filter_Filter_Last (pf E ac rf : Nat) (ls : UInt64) (w0 : World) (hpf : w0.heap[pf]? = some (.cells (#[I (ac : Int), I (rf : Int), U64 ls]) E)) : Calls Tryz.prog 44 #[Ptr pf 0] w0 (Ret w0 (.tuple #[U64 (lstV ls), .bool (decide (ls ≠ 0))])) := by
  refine enter (args := [Ptr pf 0]) Tryz.func44 rfl rfl ?_
  refine startw fun w hS => ?_
  refine rg ?_
  refine asg rfl rfl rfl ?_
  refine asg rfl rfl rfl ?_
  refine wq_then ?_
  refine wc_seq ?_
  refine rg ?_
  refine mv rfl rfl rfl ?_
  refine eqpn Tryz.underlying83 rfl rfl rfl rfl ?_
  refine mv rfl rfl rfl ?_
  refine mv rfl rfl rfl ?_
  refine nilp rfl rfl rfl ?_
  refine fan (2) (2) Tryz.underlying155 rfl sz24 (by decide) rfl rfl rfl rfl (by omega) ?_
  refine lod hpf List.not_mem_nil sc24 hS rfl rfl rfl rfl ?_
  refine eqi rfl rfl rfl rfl ?_
  refine pk_f rfl rfl rfl rfl ?_
  refine wq_then ?_
  refine wc_if rfl (fun hc1 => ?_) (fun hc1 => ?_)
  · skip
    try simp only [SB] at hc1
    refine rg ?_
    refine asg rfl rfl rfl ?_
    refine asg rfl rfl rfl ?_
    refine wq_then ?_
    refine wc_ret ?_
    refine q_then_ret ?_
    refine fin2 (v := U64 (0)) (u := .bool (false)) rfl rfl rfl ?_
    refine ⟨?_, hS.drop⟩
    first | (have hz : ls = 0 := UInt64.toNat_inj.1 (by simp; omega); simp [lstV, hz]; done) | (have hz : ¬ ls = 0 := (fun e => by subst e; simp at hc1); simp [lstV, hz])
  · skip
    try simp only [SB] at hc1
    refine wc_skip ?_
    refine wq_then ?_
    refine rg ?_
    refine mv rfl rfl rfl ?_
    refine nilp rfl rfl rfl ?_
    refine fan (2) (2) Tryz.underlying155 rfl sz24 (by decide) rfl rfl rfl rfl (by omega) ?_
    refine lod hpf List.not_mem_nil sc24 hS rfl rfl rfl rfl ?_
    refine sub64 (q := (1 : UInt64)) rfl rfl rfl rfl ?_
    refine asg rfl rfl rfl ?_
    refine asg rfl rfl rfl ?_
    refine wq_then ?_
    refine wc_ret ?_
    refine fin2 (v := U64 (ls - 1)) (u := .bool (true)) rfl rfl rfl ?_
    refine ⟨?_, hS.drop⟩
    first | (have hz : ls = 0 := UInt64.toNat_inj.1 (by simp; omega); simp [lstV, hz]; done) | (have hz : ¬ ls = 0 := (fun e => by subst e; simp at hc1); simp [lstV, hz])
end Go.Proofs.XS

/- walks -/
namespace Go.Proofs.XS
open Go Go.X Go.Proofs
set_option maxRecDepth 1000000 in
theorem cf114 : Callable Tryz.prog 114 := ⟨_, Tryz.func114, by kernel_rfl, rfl⟩
set_option maxRecDepth 1000000 in
theorem cf93 : Callable Tryz.prog 93 := ⟨_, Tryz.func93, by kernel_rfl, rfl⟩
set_option maxRecDepth 1000000 in
theorem cf94 : Callable Tryz.prog 94 := ⟨_, Tryz.func94, by kernel_rfl, rfl⟩
set_option maxRecDepth 1000000 in
theorem sz156 : Sz Tryz.prog 156 1 := by unfold Sz; kernel_rfl
set_option maxRecDepth 1000000 in
theorem sc156 : Sc Tryz.prog 156 := ⟨_, Tryz.underlying156, rfl⟩
set_option maxRecDepth 1000000 in
theorem ag164 : Ag Tryz.prog 164 2 := ⟨⟨_, Tryz.underlying164, rfl⟩, by kernel_rfl⟩
set_option maxRecDepth 1000000 in
theorem cf113 : Callable Tryz.prog 113 := ⟨_, Tryz.func113, by kernel_rfl, rfl⟩
set_option maxRecDepth 1000000 in
theorem cf77 : Callable Tryz.prog 77 := ⟨_, Tryz.func77, by kernel_rfl, rfl⟩
set_option maxRecDepth 1000000 in
theorem cf33 : Callable Tryz.prog 33 := ⟨_, Tryz.func33, by kernel_rfl, rfl⟩
set_option maxRecDepth 1000000 in
theorem sz153 : Sz Tryz.prog 153 2 := by unfold Sz; kernel_rfl
set_option maxRecDepth 1000000 in
theorem cf52 : Callable Tryz.prog 52 := ⟨_, Tryz.func52, by kernel_rfl, rfl⟩
end Go.Proofs.XS

/- walks -/
namespace Go.Proofs.XS
open Go Go.X Go.Proofs
set_option maxRecDepth 100000 in
theorem sp_filter_Filter_Counts (pf E ac rf : Nat) (ls : UInt64) (w0 : World) (hpf : w0.heap[pf]? = some (.cells (#[I (ac : Int), I (rf : Int), U64 ls]) E)) : Calls Tryz.prog 45 #[Ptr pf 0] w0 (Ret w0 (.tuple #[I (ac : Int), I (rf : Int)])) := by
  refine enter (args := [Ptr pf 0]) Tryz.func45 rfl rfl ?_
  refine startw fun w hS => ?_
  refine rg ?_
  refine asg rfl rfl rfl ?_
  refine asg rfl rfl rfl ?_
  refine wq_then ?_
  refine wc_seq ?_
  refine rg ?_
  refine mv rfl rfl rfl ?_
  refine eqpn Tryz.underlying83 rfl rfl rfl rfl ?_
  refine wq_then ?_
  refine wc_if_f rfl ?_
  refine wc_skip ?_
  refine wq_then ?_
  refine rd mo 11 (fun w => St w0 [] [] w) ?_
  have hS := hS.drew
  refine dq 0 rfl (by kernel_rfl) (by kernel_rfl) (by kernel_rfl) rfl rfl (fun w hS => mv rfl rfl rfl ⟨rfl, rfl⟩) hS ?_
  refine dq 1 rfl (by kernel_rfl) (by kernel_rfl) (by kernel_rfl) rfl rfl (fun w hS => nilp rfl rfl rfl ⟨rfl, rfl⟩) hS ?_
  refine dq 2 rfl (by kernel_rfl) (by kernel_rfl) (by kernel_rfl) rfl rfl (fun w hS => fan (0) (0) Tryz.underlying155 rfl sz153 (by decide) rfl rfl rfl rfl (by omega) ⟨rfl, rfl⟩) hS ?_
  refine dq 3 rfl (by kernel_rfl) (by kernel_rfl) (by kernel_rfl) rfl rfl (fun w hS => fan (0) (0) Tryz.underlying153 rfl sz3 (by decide) rfl rfl rfl rfl (by omega) ⟨rfl, rfl⟩) hS ?_
  refine dq 4 rfl (by kernel_rfl) (by kernel_rfl) (by kernel_rfl) rfl rfl (fun w hS => lod hpf List.not_mem_nil sc3 hS rfl rfl rfl rfl ⟨rfl, rfl⟩) hS ?_
  refine dq 5 rfl (by kernel_rfl) (by kernel_rfl) (by kernel_rfl) rfl rfl (fun w hS => mv rfl rfl rfl ⟨rfl, rfl⟩) hS ?_
  refine dq 6 rfl (by kernel_rfl) (by kernel_rfl) (by kernel_rfl) rfl rfl (fun w hS => nilp rfl rfl rfl ⟨rfl, rfl⟩) hS ?_
  refine dq 7 rfl (by kernel_rfl) (by kernel_rfl) (by kernel_rfl) rfl rfl (fun w hS => fan (0) (0) Tryz.underlying155 rfl sz153 (by decide) rfl rfl rfl rfl (by omega) ⟨rfl, rfl⟩) hS ?_
  refine dq 8 rfl (by kernel_rfl) (by kernel_rfl) (by kernel_rfl) rfl rfl (fun w hS => fan (1) (1) Tryz.underlying153 rfl sz3 (by decide) rfl rfl rfl rfl (by omega) ⟨rfl, rfl⟩) hS ?_
  refine dq 9 rfl (by kernel_rfl) (by kernel_rfl) (by kernel_rfl) rfl rfl (fun w hS => lod hpf List.not_mem_nil sc3 hS rfl rfl rfl rfl ⟨rfl, rfl⟩) hS ?_
  refine dq 10 rfl (by kernel_rfl) (by kernel_rfl) (by kernel_rfl) rfl rfl (fun w hS => asg rfl rfl rfl ⟨rfl, rfl⟩) hS ?_
  refine dl 11 rfl (by kernel_rfl) ?_
  refine asg rfl rfl rfl ?_
  refine ⟨fun h => (by cases h), ?_⟩
  refine de (by kernel_rfl) ?_
  refine wq_then ?_
  refine wc_ret ?_
  refine fin2 (v := I ((ac : Int))) (u := I ((rf : Int))) rfl rfl rfl ?_
  exact ⟨rfl, hS.drop⟩
end Go.Proofs.XS

/- walks -/
namespace Go.Proofs.XS
open Go Go.X Go.Proofs
set_option maxRecDepth 100000 in
theorem sp_peer_Peer_Address (pp E pm : Nat) (ad : List UInt8) (fx : Bool) (mvs : Nat) (w0 : World) (hpp : w0.heap[pp]? = some (.cells (#[Str ad, .bool fx, I ((mvs : Nat) : Int), .map (some pm)]) E)) : Calls Tryz.prog 31 #[Ptr pp 0] w0 (Ret w0 (.tuple #[Str ad, .bool (decide (ad ≠ []))])) := by
  refine enter (args := [Ptr pp 0]) Tryz.func31 rfl rfl ?_
  refine startw fun w hS => ?_
  refine rg ?_
  refine asg rfl rfl rfl ?_
  refine asg rfl rfl rfl ?_
  refine wq_then ?_
  refine wc_seq ?_
  refine rg ?_
  refine mv rfl rfl rfl ?_
  refine eqpn Tryz.underlying76 rfl rfl rfl rfl ?_
  refine wq_then ?_
  refine wc_if_f rfl ?_
  refine wc_skip ?_
  refine wq_then ?_
  refine rd mo 10 (fun w => St w0 [] [] w) ?_
  have hS := hS.drew
  refine dq 0 rfl (by kernel_rfl) (by kernel_rfl) (by kernel_rfl) rfl rfl (fun w hS => mv rfl rfl rfl ⟨rfl, rfl⟩) hS ?_
  refine dq 1 rfl (by kernel_rfl) (by kernel_rfl) (by kernel_rfl) rfl rfl (fun w hS => nilp rfl rfl rfl ⟨rfl, rfl⟩) hS ?_
  refine dq 2 rfl (by kernel_rfl) (by kernel_rfl) (by kernel_rfl) rfl rfl (fun w hS => fan (0) (0) Tryz.underlying135 rfl sz9 (by decide) rfl rfl rfl rfl (by omega) ⟨rfl, rfl⟩) hS ?_
  refine dq 3 rfl (by kernel_rfl) (by kernel_rfl) (by kernel_rfl) rfl rfl (fun w hS => lod hpp List.not_mem_nil sc9 hS rfl rfl rfl rfl ⟨rfl, rfl⟩) hS ?_
  refine dq 4 rfl (by kernel_rfl) (by kernel_rfl) (by kernel_rfl) rfl rfl (fun w hS => mv rfl rfl rfl ⟨rfl, rfl⟩) hS ?_
  refine dq 5 rfl (by kernel_rfl) (by kernel_rfl) (by kernel_rfl) rfl rfl (fun w hS => nilp rfl rfl rfl ⟨rfl, rfl⟩) hS ?_
  refine dq 6 rfl (by kernel_rfl) (by kernel_rfl) (by kernel_rfl) rfl rfl (fun w hS => fan (0) (0) Tryz.underlying135 rfl sz9 (by decide) rfl rfl rfl rfl (by omega) ⟨rfl, rfl⟩) hS ?_
  refine dq 7 rfl (by kernel_rfl) (by kernel_rfl) (by kernel_rfl) rfl rfl (fun w hS => lod hpp List.not_mem_nil sc9 hS rfl rfl rfl rfl ⟨rfl, rfl⟩) hS ?_
  refine dq 8 rfl (by kernel_rfl) (by kernel_rfl) (by kernel_rfl) rfl rfl (fun w hS => nes rfl rfl rfl rfl ⟨rfl, rfl⟩) hS ?_
  refine dq 9 rfl (by kernel_rfl) (by kernel_rfl) (by kernel_rfl) rfl rfl (fun w hS => asg rfl rfl rfl ⟨rfl, rfl⟩) hS ?_
  refine dl 10 rfl (by kernel_rfl) ?_
  refine asg rfl rfl rfl ?_
  refine ⟨fun h => (by cases h), ?_⟩
  refine de (by kernel_rfl) ?_
  refine wq_then ?_
  refine wc_ret ?_
  refine fin2 (v := Str ad) (u := .bool (decide (ad ≠ ([] : List UInt8)))) rfl rfl rfl ?_
  exact ⟨rfl, hS.drop⟩
end Go.Proofs.XS

/- walks -/
namespace Go.Proofs.XS
open Go Go.X Go.Proofs
set_option maxRecDepth 100000 in
theorem sp_peer_Peer_Moves (pp E pm : Nat) (ad : List UInt8) (fx : Bool) (mvs : Nat) (w0 : World) (hpp : w0.heap[pp]? = some (.cells (#[Str ad, .bool fx, I ((mvs : Nat) : Int), .map (some pm)]) E)) : Calls Tryz.prog 42 #[Ptr pp 0] w0 (Ret w0 (I ((mvs : Nat) : Int))) := by
  refine enter (args := [Ptr pp 0]) Tryz.func42 rfl rfl ?_
  refine startw fun w hS => ?_
  refine rg ?_
  refine asg rfl rfl rfl ?_
  refine wq_then ?_
  refine wc_seq ?_
  refine rg ?_
  refine mv rfl rfl rfl ?_
  refine eqpn Tryz.underlying76 rfl rfl rfl rfl ?_
  refine wq_then ?_
  refine wc_if_f rfl ?_
  refine wc_skip ?_
  refine wq_then ?_
  refine rg ?_
  refine mv rfl rfl rfl ?_
  refine nilp rfl rfl rfl ?_
  refine fan (2) (2) Tryz.underlying135 rfl sz3 (by decide) rfl rfl rfl rfl (by omega) ?_
  refine lod hpp List.not_mem_nil sc3 hS rfl rfl rfl rfl ?_
  refine asg rfl rfl rfl ?_
  refine wq_then ?_
  refine wc_ret ?_
  refine fin1 (v := I (((mvs : Nat) : Int))) rfl rfl ?_
  exact ⟨rfl, hS.drop⟩
end Go.Proofs.XS

/- Where several roads meet: what follows is walked once. -/
namespace Go.X
open Go
section
variable {P : Program} {ops : Array Oper} {n : Nat} {Q : XPost} {l : Regs} {w w0 : World} {F : List Nat} {A B R : List (Nat × Obj)}
def MM (n : Nat) (inv : Regs → World → Prop) (a : Act) (w : World) : Prop := ∃ l, Is n l a ∧ inv l w
theorem sqj {x y : Code} (inv : Regs → World → Prop) (h : WC P n (Exit.then (MM n inv) Q) x l w) (k : ∀ l w, inv l w → WC P n Q y l w) : WC P n Q (.seq x y) l w :=
  wc_seq fun a ha => Code.wp_mono (fun e a w he => by
    cases e with
    | normal => obtain ⟨s, h1, h2⟩ := he; exact k s w h2 a h1
    | _ => exact he) (h a ha)
theorem mmq {inv : Regs → World → Prop} {l' : Regs} (hi : inv l' w) (h0 : Sub l' l) (hd : dfs l' = dfs l := by rfl) : WQ n (Exit.then (MM n inv) Q) .normal l w :=
  fun _ ha => ⟨l', ha.sub h0 hd, hi⟩
/-- blocks that are picked out, in any order -/
theorem St.prm (h : St w0 F (A ++ R) w) (is : List Nat) (hn : is.Nodup) (hi : is.map (fun i => A[i]?) = B.map some) : St w0 F (B ++ R) w := by
  have hm : ∀ p ∈ B, p ∈ A := by
    intro p hp
    have : some p ∈ is.map (fun i => A[i]?) := by rw [hi]; exact List.mem_map.2 ⟨p, hp, rfl⟩
    obtain ⟨i, _, hi'⟩ := List.mem_map.1 this
    exact List.mem_of_getElem? hi'
  have hnd := h.nodup
  rw [List.map_append, List.nodup_append] at hnd
  obtain ⟨hA, hR, hd⟩ := hnd
  have key : ∀ (is : List Nat) (B : List (Nat × Obj)), is.Nodup → is.map (fun i => A[i]?) = B.map some → (B.map Prod.fst).Nodup := by
    intro is
    induction is with
    | nil => intro B _ hi; cases B with | nil => exact List.nodup_nil | cons => simp at hi
    | cons i is ih =>
      intro B hn hi
      cases B with
      | nil => simp at hi
      | cons p B =>
        simp only [List.map_cons, List.cons.injEq] at hi
        rw [List.nodup_cons] at hn
        rw [List.map_cons, List.nodup_cons]
        refine ⟨fun hp => hn.1 ?_, ih B hn.2 hi.2⟩
        obtain ⟨q, hq, e⟩ := List.mem_map.1 hp
        have : some q ∈ is.map (fun i => A[i]?) := by rw [hi.2]; exact List.mem_map.2 ⟨q, hq, rfl⟩
        obtain ⟨j, hj, e2⟩ := List.mem_map.1 this
        have k1 : (A.map Prod.fst)[i]? = some p.1 := by rw [List.getElem?_map, hi.1]; rfl
        have k2 : (A.map Prod.fst)[j]? = some p.1 := by rw [List.getElem?_map, e2]; simp [e]
        have : i = j := (List.getElem?_inj (List.getElem?_eq_some_iff.1 k1).1 hA).1 (k1.trans k2.symm)
        subst this; exact hj
  refine h.of (fun p hp => ?_) ?_
  · rcases List.mem_append.1 hp with hp | hp
    · exact List.mem_append.2 (.inl (hm p hp))
    · exact List.mem_append.2 (.inr hp)
  · rw [List.map_append]
    refine List.nodup_append.2 ⟨key is B hn hi, hR, fun a ha b hb => ?_⟩
    obtain ⟨p, hp, rfl⟩ := List.mem_map.1 ha
    exact hd p.1 (List.mem_map.2 ⟨p, hm p hp, rfl⟩) b hb
end
end Go.X
namespace Go.X
theorem St.nap {w w0 : World} {F : List Nat} {B : List (Nat × Obj)} (h : St w0 F (B ++ []) w) : St w0 F B w := by simpa using h
end Go.X

/- walks -/
namespace Go.Proofs.XS
open Go Go.X Go.Proofs
set_option maxRecDepth 100000 in
set_option maxHeartbeats 2000000 in
theorem sp_session_Session_Status (s : Nat) (m : SS) (X : List (Nat × Obj)) (w0 : World) (hO : SesO s m X) (hX : ∀ p ∈ X, w0.heap[p.1]? = some p.2) : Calls Tryz.prog 12 #[Ptr s 0] w0 (Ret w0 (.agg (statC m))) := by
  refine enter (args := [Ptr s 0]) Tryz.func12 rfl rfl ?_
  obtain ⟨pp, pm, pc, pf, pe, t, c, E1, E2, E3, E4, E5, E6, mm, Z, hd1, hE, hXe⟩ := hO
  subst hXe
  have hs : w0.heap[s]? = some (.cells (#[Ptr pp 0, I (((m.dir : Nat) : Int)), Ptr t 0, Ptr pc 0, Ptr pf 0, Ptr pe 0, U16 (m.rl), I (((m.rc : Nat) : Int)), U32 (m.re), U64 (m.fs), .bool (m.cz)]) E1) := hX (s, _) (by simp)
  have hpf : w0.heap[pf]? = some (.cells (#[I (((m.ac : Nat) : Int)), I (((m.rf : Nat) : Int)), U64 (m.ls)]) E2) := hX (pf, _) (by simp)
  have hpc : w0.heap[pc]? = some (.cells (#[U64 (m.nx), U64 (m.gv), .bool (false)]) E3) := hX (pc, _) (by simp)
  have hpp : w0.heap[pp]? = some (.cells (#[Str m.ad, .bool (m.fx), I (((m.mv : Nat) : Int)), .map (some pm)]) E6) := hX (pp, _) (by simp)
  refine startw fun w hS => ?_
  refine rg ?_
  refine ala zr38 hS rfl rfl ?_
  intro b2 w hb2 hS
  refine wq_then ?_
  refine wc_seq ?_
  refine rg ?_
  refine mv rfl rfl rfl ?_
  refine eqpn Tryz.underlying25 rfl rfl rfl rfl ?_
  refine wq_then ?_
  refine wc_if_f rfl ?_
  refine wc_skip ?_
  refine wq_then ?_
  refine sqj (fun l w => ∃ (b3 : Nat), l = [(0, Ptr s 0), (2, Ptr b2 0), (3, Ptr b3 0)] ∧ St w0 [] [(b3, .cells (#[U64 (m.fs + m.gv), U64 (0), .bool (false), I (0), I (0), Str ([]), I ((m.mv : Nat) : Int), I ((m.rc : Nat) : Int), U16 (0), .bool (m.cz)]) 38), (b2, .cells (#[U64 (0), U64 (0), .bool (false), I (0), I (0), Str ([]), I (0), I (0), U16 (0), .bool (false)]) 38)] w) ?_ ?_
  · skip
    refine wc_draw mo 25 (fun w => St w0 [] [] w) ?_
    have hS := hS.drew
    refine dq 0 rfl (by kernel_rfl) (by kernel_rfl) (by kernel_rfl) rfl rfl (fun w hS => mv rfl rfl rfl ⟨rfl, rfl⟩) (hS.sublist (.cons _ (List.nil_sublist _))) ?_
    refine dq 1 rfl (by kernel_rfl) (by kernel_rfl) (by kernel_rfl) rfl rfl (fun w hS => nilp rfl rfl rfl ⟨rfl, rfl⟩) (hS.sublist (.cons _ (List.nil_sublist _))) ?_
    refine dq 2 rfl (by kernel_rfl) (by kernel_rfl) (by kernel_rfl) rfl rfl (fun w hS => fan (9) (9) Tryz.underlying90 rfl sz24 (by decide) rfl rfl rfl rfl (by omega) ⟨rfl, rfl⟩) (hS.sublist (.cons _ (List.nil_sublist _))) ?_
    refine dq 3 rfl (by kernel_rfl) (by kernel_rfl) (by kernel_rfl) rfl rfl (fun w hS => lod hs List.not_mem_nil sc24 hS rfl rfl rfl rfl ⟨rfl, rfl⟩) (hS.sublist (.cons _ (List.nil_sublist _))) ?_
    refine dq 4 rfl (by kernel_rfl) (by kernel_rfl) (by kernel_rfl) rfl rfl (fun w hS => mv rfl rfl rfl ⟨rfl, rfl⟩) (hS.sublist (.cons _ (List.nil_sublist _))) ?_
    refine dq 5 rfl (by kernel_rfl) (by kernel_rfl) (by kernel_rfl) rfl rfl (fun w hS => nilp rfl rfl rfl ⟨rfl, rfl⟩) (hS.sublist (.cons _ (List.nil_sublist _))) ?_
    refine dq 6 rfl (by kernel_rfl) (by kernel_rfl) (by kernel_rfl) rfl rfl (fun w hS => fan (3) (3) Tryz.underlying90 rfl sz81 (by decide) rfl rfl rfl rfl (by omega) ⟨rfl, rfl⟩) (hS.sublist (.cons _ (List.nil_sublist _))) ?_
    refine dq 7 rfl (by kernel_rfl) (by kernel_rfl) (by kernel_rfl) rfl rfl (fun w hS => lod hs List.not_mem_nil sc81 hS rfl rfl rfl rfl ⟨rfl, rfl⟩) (hS.sublist (.cons _ (List.nil_sublist _))) ?_
    refine dq 10 rfl (by kernel_rfl) (by kernel_rfl) (by kernel_rfl) rfl rfl (fun w hS => mv rfl rfl rfl ⟨rfl, rfl⟩) (hS.sublist (.cons _ (List.nil_sublist _))) ?_
    refine dq 11 rfl (by kernel_rfl) (by kernel_rfl) (by kernel_rfl) rfl rfl (fun w hS => nilp rfl rfl rfl ⟨rfl, rfl⟩) (hS.sublist (.cons _ (List.nil_sublist _))) ?_
    refine dq 12 rfl (by kernel_rfl) (by kernel_rfl) (by kernel_rfl) rfl rfl (fun w hS => fan (0) (0) Tryz.underlying90 rfl sz76 (by decide) rfl rfl rfl rfl (by omega) ⟨rfl, rfl⟩) (hS.sublist (.cons _ (List.nil_sublist _))) ?_
    refine dq 13 rfl (by kernel_rfl) (by kernel_rfl) (by kernel_rfl) rfl rfl (fun w hS => lod hs List.not_mem_nil sc76 hS rfl rfl rfl rfl ⟨rfl, rfl⟩) (hS.sublist (.cons _ (List.nil_sublist _))) ?_
    refine dq 15 rfl (by kernel_rfl) (by kernel_rfl) (by kernel_rfl) rfl rfl (fun w hS => mv rfl rfl rfl ⟨rfl, rfl⟩) (hS.sublist (.cons _ (List.nil_sublist _))) ?_
    refine dq 16 rfl (by kernel_rfl) (by kernel_rfl) (by kernel_rfl) rfl rfl (fun w hS => nilp rfl rfl rfl ⟨rfl, rfl⟩) (hS.sublist (.cons _ (List.nil_sublist _))) ?_
    refine dq 17 rfl (by kernel_rfl) (by kernel_rfl) (by kernel_rfl) rfl rfl (fun w hS => fan (6) (6) Tryz.underlying90 rfl sz88 (by decide) rfl rfl rfl rfl (by omega) ⟨rfl, rfl⟩) (hS.sublist (.cons _ (List.nil_sublist _))) ?_
    refine dq 19 rfl (by kernel_rfl) (by kernel_rfl) (by kernel_rfl) rfl rfl (fun w hS => mv rfl rfl rfl ⟨rfl, rfl⟩) (hS.sublist (.cons _ (List.nil_sublist _))) ?_
    refine dq 20 rfl (by kernel_rfl) (by kernel_rfl) (by kernel_rfl) rfl rfl (fun w hS => nilp rfl rfl rfl ⟨rfl, rfl⟩) (hS.sublist (.cons _ (List.nil_sublist _))) ?_
    refine dq 21 rfl (by kernel_rfl) (by kernel_rfl) (by kernel_rfl) rfl rfl (fun w hS => fan (10) (10) Tryz.underlying90 rfl sz4 (by decide) rfl rfl rfl rfl (by omega) ⟨rfl, rfl⟩) (hS.sublist (.cons _ (List.nil_sublist _))) ?_
    refine dq 22 rfl (by kernel_rfl) (by kernel_rfl) (by kernel_rfl) rfl rfl (fun w hS => lod hs List.not_mem_nil sc4 hS rfl rfl rfl rfl ⟨rfl, rfl⟩) (hS.sublist (.cons _ (List.nil_sublist _))) ?_
    refine dl2 8 24 rfl rfl (by kernel_rfl) ?_ ?_
    · skip
      refine cv cf41 hS rfl rfl rfl rfl rfl (sp_counter_Counter_Given (pc) (_) (m.nx) (m.gv) (false) _ (hS.old hpc List.not_mem_nil)) ?_
      intro w hS
      refine ⟨fun _ => (hS.sublist (.cons _ (List.nil_sublist _))), ?_⟩
      refine dq 9 rfl (by kernel_rfl) (by kernel_rfl) (by kernel_rfl) rfl rfl (fun w hS => add64 rfl rfl rfl rfl ⟨rfl, rfl⟩) (hS.sublist (.cons _ (List.nil_sublist _))) ?_
      refine dl2 14 24 rfl rfl (by kernel_rfl) ?_ ?_
      · skip
        refine cv cf42 hS rfl rfl rfl rfl rfl (sp_peer_Peer_Moves (pp) (_) (_) (m.ad) (m.fx) (m.mv) _ (hS.old hpp List.not_mem_nil)) ?_
        intro w hS
        refine ⟨fun _ => (hS.sublist (.cons _ (List.nil_sublist _))), ?_⟩
        refine dl2 18 24 rfl rfl (by kernel_rfl) ?_ ?_
        · skip
          refine cv cf43 hS rfl rfl rfl rfl rfl (sp_echo_Rtt_Count (s) (_) (_) (_) (_) (_) (_) (_) (_) (_) (m.rl) (m.rc) (m.re) _ (hS.old hs List.not_mem_nil)) ?_
          intro w hS
          refine ⟨fun _ => (hS.sublist (.cons _ (List.nil_sublist _))), ?_⟩
          refine dq 23 rfl (by kernel_rfl) (by kernel_rfl) (by kernel_rfl) rfl rfl (fun w hS => bd (cs := #[U64 (m.fs + m.gv), U64 (0), .bool (false), I (0), I (0), Str ([]), I ((m.mv : Nat) : Int), I ((m.rc : Nat) : Int), U16 (0), .bool (m.cz)]) rfl rfl rfl (by kernel_rfl) ⟨rfl, rfl⟩) (hS.sublist (.cons _ (List.nil_sublist _))) ?_
          refine dl 24 rfl (by kernel_rfl) ?_
          refine ala zr38 hS rfl rfl ?_
          intro b3 w hb3 hS
          refine ⟨fun _ => (hS.sublist (.cons _ (.cons _ (List.nil_sublist _)))), ?_⟩
          refine dl 25 rfl (by kernel_rfl) ?_
          refine sa 0 ag38 hS rfl rfl rfl (by kernel_rfl) rfl rfl rfl ?_
          intro w hS
          refine ⟨fun h => (by cases h), ?_⟩
          refine de (by kernel_rfl) ?_
          exact mmq ⟨b3, rfl, hS⟩ ⟨rfl, rfl, rfl, trivial⟩
        · skip
          refine ala zr38 hS rfl rfl ?_
          intro b3 w hb3 hS
          refine ⟨fun _ => (hS.sublist (.cons _ (.cons _ (List.nil_sublist _)))), ?_⟩
          refine dl 18 rfl (by kernel_rfl) ?_
          refine cv cf43 hS rfl rfl rfl rfl rfl (sp_echo_Rtt_Count (s) (_) (_) (_) (_) (_) (_) (_) (_) (_) (m.rl) (m.rc) (m.re) _ (hS.old hs List.not_mem_nil)) ?_
          intro w hS
          refine ⟨fun _ => (hS.sublist (.cons _ (.cons _ (List.nil_sublist _)))), ?_⟩
          refine dq 23 rfl (by kernel_rfl) (by kernel_rfl) (by kernel_rfl) rfl rfl (fun w hS => bd (cs := #[U64 (m.fs + m.gv), U64 (0), .bool (false), I (0), I (0), Str ([]), I ((m.mv : Nat) : Int), I ((m.rc : Nat) : Int), U16 (0), .bool (m.cz)]) rfl rfl rfl (by kernel_rfl) ⟨rfl, rfl⟩) (hS.sublist (.cons _ (.cons _ (List.nil_sublist _)))) ?_
          refine dl 25 rfl (by kernel_rfl) ?_
          refine sa 0 ag38 hS rfl rfl rfl (by kernel_rfl) rfl rfl rfl ?_
          intro w hS
          refine ⟨fun h => (by cases h), ?_⟩
          refine de (by kernel_rfl) ?_
          exact mmq ⟨b3, rfl, hS⟩ ⟨rfl, rfl, rfl, trivial⟩
      · skip
        refine ala zr38 hS rfl rfl ?_
        intro b3 w hb3 hS
        refine ⟨fun _ => (hS.sublist (.cons _ (.cons _ (List.nil_sublist _)))), ?_⟩
        refine dl 14 rfl (by kernel_rfl) ?_
        refine cv cf42 hS rfl rfl rfl rfl rfl (sp_peer_Peer_Moves (pp) (_) (_) (m.ad) (m.fx) (m.mv) _ (hS.old hpp List.not_mem_nil)) ?_
        intro w hS
        refine ⟨fun _ => (hS.sublist (.cons _ (.cons _ (List.nil_sublist _)))), ?_⟩
        refine dl 18 rfl (by kernel_rfl) ?_
        refine cv cf43 hS rfl rfl rfl rfl rfl (sp_echo_Rtt_Count (s) (_) (_) (_) (_) (_) (_) (_) (_) (_) (m.rl) (m.rc) (m.re) _ (hS.old hs List.not_mem_nil)) ?_
        intro w hS
        refine ⟨fun _ => (hS.sublist (.cons _ (.cons _ (List.nil_sublist _)))), ?_⟩
        refine dq 23 rfl (by kernel_rfl) (by kernel_rfl) (by kernel_rfl) rfl rfl (fun w hS => bd (cs := #[U64 (m.fs + m.gv), U64 (0), .bool (false), I (0), I (0), Str ([]), I ((m.mv : Nat) : Int), I ((m.rc : Nat) : Int), U16 (0), .bool (m.cz)]) rfl rfl rfl (by kernel_rfl) ⟨rfl, rfl⟩) (hS.sublist (.cons _ (.cons _ (List.nil_sublist _)))) ?_
        refine dl 25 rfl (by kernel_rfl) ?_
        refine sa 0 ag38 hS rfl rfl rfl (by kernel_rfl) rfl rfl rfl ?_
        intro w hS
        refine ⟨fun h => (by cases h), ?_⟩
        refine de (by kernel_rfl) ?_
        exact mmq ⟨b3, rfl, hS⟩ ⟨rfl, rfl, rfl, trivial⟩
    · skip
      refine ala zr38 hS rfl rfl ?_
      intro b3 w hb3 hS
      refine ⟨fun _ => (hS.sublist (.cons _ (.cons _ (List.nil_sublist _)))), ?_⟩
      refine dl 8 rfl (by kernel_rfl) ?_
      refine cv cf41 hS rfl rfl rfl rfl rfl (sp_counter_Counter_Given (pc) (_) (m.nx) (m.gv) (false) _ (hS.old hpc List.not_mem_nil)) ?_
      intro w hS
      refine ⟨fun _ => (hS.sublist (.cons _ (.cons _ (List.nil_sublist _)))), ?_⟩
      refine dq 9 rfl (by kernel_rfl) (by kernel_rfl) (by kernel_rfl) rfl rfl (fun w hS => add64 rfl rfl rfl rfl ⟨rfl, rfl⟩) (hS.sublist (.cons _ (.cons _ (List.nil_sublist _)))) ?_
      refine dl 14 rfl (by kernel_rfl) ?_
      refine cv cf42 hS rfl rfl rfl rfl rfl (sp_peer_Peer_Moves (pp) (_) (_) (m.ad) (m.fx) (m.mv) _ (hS.old hpp List.not_mem_nil)) ?_
      intro w hS
      refine ⟨fun _ => (hS.sublist (.cons _ (.cons _ (List.nil_sublist _)))), ?_⟩
      refine dl 18 rfl (by kernel_rfl) ?_
      refine cv cf43 hS rfl rfl rfl rfl rfl (sp_echo_Rtt_Count (s) (_) (_) (_) (_) (_) (_) (_) (_) (_) (m.rl) (m.rc) (m.re) _ (hS.old hs List.not_mem_nil)) ?_
      intro w hS
      refine ⟨fun _ => (hS.sublist (.cons _ (.cons _ (List.nil_sublist _)))), ?_⟩
      refine dq 23 rfl (by kernel_rfl) (by kernel_rfl) (by kernel_rfl) rfl rfl (fun w hS => bd (cs := #[U64 (m.fs + m.gv), U64 (0), .bool (false), I (0), I (0), Str ([]), I ((m.mv : Nat) : Int), I ((m.rc : Nat) : Int), U16 (0), .bool (m.cz)]) rfl rfl rfl (by kernel_rfl) ⟨rfl, rfl⟩) (hS.sublist (.cons _ (.cons _ (List.nil_sublist _)))) ?_
      refine dl 25 rfl (by kernel_rfl) ?_
      refine sa 0 ag38 hS rfl rfl rfl (by kernel_rfl) rfl rfl rfl ?_
      intro w hS
      refine ⟨fun h => (by cases h), ?_⟩
      refine de (by kernel_rfl) ?_
      exact mmq ⟨b3, rfl, hS⟩ ⟨rfl, rfl, rfl, trivial⟩
  · rintro _ w ⟨b3, rfl, hS⟩
    refine rg ?_
    refine mv rfl rfl rfl ?_
    refine nilp rfl rfl rfl ?_
    refine fan (4) (4) Tryz.underlying90 rfl sz83 (by decide) rfl rfl rfl rfl (by omega) ?_
    refine lod hs List.not_mem_nil sc83 hS rfl rfl rfl rfl ?_
    refine cv cf44 hS rfl rfl rfl rfl rfl (sp_filter_Filter_Last (pf) (_) (m.ac) (m.rf) (m.ls) _ (hS.old hpf List.not_mem_nil)) ?_
    intro w hS
    refine mv rfl rfl rfl ?_
    refine ext rfl rfl rfl rfl ?_
    refine ext rfl rfl rfl rfl ?_
    refine fan (1) (1) Tryz.underlying38 rfl sz24 (by decide) rfl rfl rfl rfl (by omega) ?_
    refine st 0 sz24 hS rfl rfl rfl rfl rfl rfl (by show (1 : Nat) < 10; decide) rfl ?_
    intro w hS
    refine fan (2) (2) Tryz.underlying38 rfl sz4 (by decide) rfl rfl rfl rfl (by omega) ?_
    refine st 0 sz4 hS rfl rfl rfl rfl rfl rfl (by show (2 : Nat) < 10; decide) rfl ?_
    intro w hS
    refine wq_then ?_
    refine rg ?_
    refine mv rfl rfl rfl ?_
    refine nilp rfl rfl rfl ?_
    refine fan (4) (4) Tryz.underlying90 rfl sz83 (by decide) rfl rfl rfl rfl (by omega) ?_
    refine lod hs List.not_mem_nil sc83 hS rfl rfl rfl rfl ?_
    refine cv cf45 hS rfl rfl rfl rfl rfl (sp_filter_Filter_Counts (pf) (_) (m.ac) (m.rf) (m.ls) _ (hS.old hpf List.not_mem_nil)) ?_
    intro w hS
    refine mv rfl rfl rfl ?_
    refine ext rfl rfl rfl rfl ?_
    refine ext rfl rfl rfl rfl ?_
    refine fan (3) (3) Tryz.underlying38 rfl sz3 (by decide) rfl rfl rfl rfl (by omega) ?_
    refine st 0 sz3 hS rfl rfl rfl rfl rfl rfl (by show (3 : Nat) < 10; decide) rfl ?_
    intro w hS
    refine fan (4) (4) Tryz.underlying38 rfl sz3 (by decide) rfl rfl rfl rfl (by omega) ?_
    refine st 0 sz3 hS rfl rfl rfl rfl rfl rfl (by show (4 : Nat) < 10; decide) rfl ?_
    intro w hS
    refine wq_then ?_
    refine rg ?_
    refine mv rfl rfl rfl ?_
    refine nilp rfl rfl rfl ?_
    refine fan (0) (0) Tryz.underlying90 rfl sz76 (by decide) rfl rfl rfl rfl (by omega) ?_
    refine lod hs List.not_mem_nil sc76 hS rfl rfl rfl rfl ?_
    refine cv cf31 hS rfl rfl rfl rfl rfl (sp_peer_Peer_Address (pp) (_) (_) (m.ad) (m.fx) (m.mv) _ (hS.old hpp List.not_mem_nil)) ?_
    intro w hS
    refine mv rfl rfl rfl ?_
    refine ext rfl rfl rfl rfl ?_
    refine ext rfl rfl rfl rfl ?_
    refine fan (5) (5) Tryz.underlying38 rfl sz9 (by decide) rfl rfl rfl rfl (by omega) ?_
    refine st 0 sz9 hS rfl rfl rfl rfl rfl rfl (by show (5 : Nat) < 10; decide) rfl ?_
    intro w hS
    refine wq_then ?_
    refine rg ?_
    refine mv rfl rfl rfl ?_
    refine nilp rfl rfl rfl ?_
    refine fan (6) (6) Tryz.underlying90 rfl sz88 (by decide) rfl rfl rfl rfl (by omega) ?_
    refine cv cf46 hS rfl rfl rfl rfl rfl (sp_echo_Rtt_Last (s) (_) (_) (_) (_) (_) (_) (_) (_) (_) (m.rl) (m.rc) (m.re) _ (hS.old hs List.not_mem_nil)) ?_
    intro w hS
    refine mv rfl rfl rfl ?_
    refine ext rfl rfl rfl rfl ?_
    refine ext rfl rfl rfl rfl ?_
    refine fan (8) (8) Tryz.underlying38 rfl sz36 (by decide) rfl rfl rfl rfl (by omega) ?_
    refine st 0 sz36 hS rfl rfl rfl rfl rfl rfl (by show (8 : Nat) < 10; decide) rfl ?_
    intro w hS
    refine wq_then ?_
    refine rg ?_
    refine la 0 ag38 hS rfl rfl rfl rfl rfl ?_
    refine sa 1 ag38 hS rfl rfl rfl (by kernel_rfl) rfl rfl rfl ?_
    intro w hS
    refine wq_then ?_
    refine wc_ret ?_
    refine fin1 (v := .agg (#[U64 (m.fs + m.gv), U64 (lstV m.ls), .bool (decide (m.ls ≠ 0)), I ((m.ac : Nat) : Int), I ((m.rf : Nat) : Int), (Str m.ad), I ((m.mv : Nat) : Int), I ((m.rc : Nat) : Int), U16 (m.rl), .bool (m.cz)])) rfl ⟨_, rfl, lv_a ag38 (hS.get 1 rfl) rfl⟩ ?_
    exact ⟨rfl, hS.drop⟩
end Go.Proofs.XS

/- walks -/
namespace Go.Proofs.XS
open Go Go.X Go.Proofs
set_option maxRecDepth 1000000 in
theorem cf36 : Callable Tryz.prog 36 := ⟨_, Tryz.func36, by kernel_rfl, rfl⟩
set_option maxRecDepth 1000000 in
theorem sz85 : Sz Tryz.prog 85 1 := by unfold Sz; kernel_rfl
set_option maxRecDepth 1000000 in
theorem sc85 : Sc Tryz.prog 85 := ⟨_, Tryz.underlying85, rfl⟩
set_option maxRecDepth 1000000 in
theorem cf37 : Callable Tryz.prog 37 := ⟨_, Tryz.func37, by kernel_rfl, rfl⟩
set_option maxRecDepth 1000000 in
theorem cf38 : Callable Tryz.prog 38 := ⟨_, Tryz.func38, by kernel_rfl, rfl⟩
set_option maxRecDepth 1000000 in
theorem sz77 : Sz Tryz.prog 77 1 := by unfold Sz; kernel_rfl
set_option maxRecDepth 1000000 in
theorem cf39 : Callable Tryz.prog 39 := ⟨_, Tryz.func39, by kernel_rfl, rfl⟩
end Go.Proofs.XS

/- walks -/
namespace Go.Proofs.XS
open Go Go.X Go.Proofs
set_option maxRecDepth 100000 in
theorem sp_bits_Bytes (x : UInt64) (n : Nat) (n_ : Int) (w0 : World) (hn_ : n_ = (n : Int)) (hn : n ≤ 8) : Calls Tryz.prog 84 #[U64 x, I n_] w0 (RetS w0 (fun v L => ∃ b, v = .slice (some ⟨b, 0, none⟩) n n ∧ L = [(b, .cells (LB (bytesL x n)) 5)])) := by
  subst hn_
  refine enter (args := [U64 x, I (n : Int)]) Tryz.func84 rfl rfl ?_
  refine startw fun w hS => ?_
  refine rg ?_
  refine asg rfl rfl rfl ?_
  refine wq_then ?_
  refine rg ?_
  refine mv rfl rfl rfl ?_
  refine maxin (n) (by omega) rfl rfl rfl rfl ?_
  refine minin (n) (by omega) rfl rfl rfl rfl ?_
  refine asg rfl rfl rfl ?_
  refine wq_then ?_
  refine rg ?_
  refine mv rfl rfl rfl ?_
  refine mks (n) sl30 hS rfl rfl rfl rfl (by omega) (by omega) (by omega) (by omega) (madeLB _) ?_
  intro b11 w hb11 hS
  refine asg rfl rfl rfl ?_
  refine wq_then ?_
  refine wc_seq ?_
  refine rg ?_
  refine mv rfl rfl rfl ?_
  refine mv rfl rfl rfl ?_
  refine wq_then ?_
  refine wc_block ?_
  refine wc_loop (σ := Nat) (fun k => [(0, U64 (x)), (1, I (((n : Nat) : Int))), (4, (.slice none 0 0)), (5, .slice (some ⟨b11, 0, none⟩) n n), (12, I (((n : Nat) : Int))), (13, I ((k : Int)))])
    (fun k w => (k ≤ n) ∧ St w0 [] [(b11, .cells (LB (flL n (bytf x n) k)) 5)] w) (fun k => n - k) 0 ⟨rfl, rfl, rfl, rfl, rfl, rfl, trivial⟩ ⟨by omega, (by rw [← flL_0]; exact hS)⟩ ?_
  rintro k w ⟨hk, hS⟩
  refine rg ?_
  refine lss rfl rfl rfl rfl ?_
  refine wq_then ?_
  refine wc_seq ?_
  refine wc_if rfl (fun hc1 => ?_) (fun hc1 => ?_)
  · skip
    try simp only [SB] at hc1
    refine wc_skip ?_
    refine wq_then ?_
    refine wc_seq ?_
    refine wc_block ?_
    refine rg ?_
    refine mv rfl rfl rfl ?_
    refine asg rfl rfl rfl ?_
    refine wq_then ?_
    refine wc_region ?_
    refine mv rfl rfl rfl ?_
    refine mv rfl rfl rfl ?_
    refine mv rfl rfl rfl ?_
    refine mv rfl rfl rfl ?_
    refine subi (by omega) (by omega) rfl rfl rfl rfl ?_
    refine mv rfl rfl rfl ?_
    refine subi (by omega) (by omega) rfl rfl rfl rfl ?_
    refine muli (by omega) (by omega) rfl rfl rfl rfl ?_
    refine shrn64 (8 * ((n - 1) - k)) (by omega) rfl rfl rfl rfl ?_
    refine cvu8 Tryz.underlying5 ⟨_, Tryz.underlying24⟩ rfl rfl rfl ?_
    refine isn (k) Tryz.underlying30 sz5 rfl rfl rfl rfl (by omega) (by omega) ?_
    refine st (cs' := LB (flL n (bytf x n) (k + 1))) 0 sz5 hS rfl rfl rfl rfl rfl rfl (by rw [LB_size, flL_len]; omega) (by rw [LB_set]; exact congrArg LB (flL_succ _ _ k)) ?_
    intro w hS
    refine q_block_norm ?_
    refine wq_then ?_
    refine wc_region ?_
    refine addi (by omega) (by omega) rfl rfl rfl rfl ?_
    refine mv rfl rfl rfl ?_
    refine again_q (k + 1) ⟨rfl, rfl, rfl, rfl, rfl, lkI rfl (by first | omega | rfl), trivial⟩ ⟨by omega, hS⟩ (by omega)
  · skip
    try simp only [SB] at hc1
    refine wc_exit ?_
    refine q_then_exit ?_
    refine q_then_exit ?_
    refine q_block_hit ?_
    refine wq_then ?_
    refine rg ?_
    refine mv rfl rfl rfl ?_
    refine asg rfl rfl rfl ?_
    refine wq_then ?_
    refine wc_ret ?_
    refine fin1 (v := .slice (some ⟨b11, 0, none⟩) n n) rfl rfl ?_
    have hk4 : k = n := by omega
    refine ⟨_, _, rfl, ⟨b11, rfl, rfl⟩, ?_⟩
    rw [hk4, flL_n] at hS
    exact hS.sublist (.cons_cons _ (List.nil_sublist _))
end Go.Proofs.XS

/- walks -/
namespace Go.Proofs.XS
open Go Go.X Go.Proofs
set_option maxRecDepth 100000 in
theorem sp_nonce_Head (d : Nat) (s : UInt64) (d_ : Int) (w0 : World) (hd_ : d_ = (d : Int)) (hd : d ≤ 1) (hs : s.toNat ≤ 9223372036854775807) : Calls Tryz.prog 82 #[I d_, U64 s] w0 (Ret w0 (.tuple #[.agg (BV (headV d s)), .bool true])) := by
  subst hd_
  refine enter (args := [I (d : Int), U64 s]) Tryz.func82 rfl rfl ?_
  refine startw fun w hS => ?_
  refine rg ?_
  refine ala zr166 hS rfl rfl ?_
  intro b4 w hb4 hS
  refine asg rfl rfl rfl ?_
  refine wq_then ?_
  refine wc_seq ?_
  refine rg ?_
  refine mv rfl rfl rfl ?_
  refine andni (D := 2) 1 (by decide) (by decide) (by decide) (by omega) (by omega) rfl rfl rfl rfl ?_
  refine nei rfl rfl rfl rfl ?_
  refine mv rfl rfl rfl ?_
  refine spl 9 rfl (fun hb1 => ?_) (fun hb1 => ?_)
  · skip
    try simp only [SB] at hb1
    exfalso; omega
  · skip
    try simp only [SB] at hb1
    refine mv rfl rfl rfl ?_
    refine gtr rfl rfl rfl rfl ?_
    refine pk_f rfl rfl rfl rfl ?_
    refine wq_then ?_
    refine wc_if rfl (fun hc1 => ?_) (fun hc1 => ?_)
    · skip
      try simp only [SB] at hc1
      exfalso; omega
    · skip
      try simp only [SB] at hc1
      refine wc_skip ?_
      refine wq_then ?_
      refine rg ?_
      refine mv rfl rfl rfl ?_
      refine cvu64 Tryz.underlying24 ⟨_, Tryz.underlying3⟩ rfl rfl rfl ?_
      refine shln64 (63) (by omega) rfl rfl rfl rfl ?_
      refine mv rfl rfl rfl ?_
      refine or64 rfl rfl rfl rfl ?_
      refine cs cf84 hS rfl rfl rfl rfl rfl (sp_bits_Bytes (((shl64 (toU64 ((d : Int))) 63) ||| s)) (8) _ _ (by omega) (by omega)) ?_
      rintro _ _ w ⟨q19, rfl, rfl⟩ hS
      refine s2b Tryz.underlying166 rfl rfl rfl (by omega) ((Cel.lb (l := bytesL ((shl64 (toU64 ((d : Int))) 63) ||| s) 8) (hS.get 0 rfl)).some8 (j := 0) (by first | omega | (simp; omega) | simp)) ?_
      refine ld rfl rfl rfl (lv_celj 0 ag166 (Cel.lb (l := bytesL ((shl64 (toU64 ((d : Int))) 63) ||| s) 8) (hS.get 0 rfl)) (by first | omega | (simp; done) | (simp; omega)) (by omega)) ?_
      refine sa 1 ag166 hS rfl rfl rfl (BV_one _) rfl (BV_size _) (BV_size _) ?_
      intro w hS
      refine asg rfl rfl rfl ?_
      refine wq_then ?_
      refine wc_ret ?_
      refine fin2 (v := .agg (BV (ofl 8 (bytesL ((shl64 (toU64 ((d : Int))) 63) ||| s) 8)))) (u := .bool (true)) rfl ⟨_, rfl, lv_a ag166 (hS.get 1 rfl) (BV_size _)⟩ rfl ?_
      exact ⟨rfl, hS.drop⟩
end Go.Proofs.XS

/- walks -/
namespace Go.Proofs.XS
open Go Go.X Go.Proofs
set_option maxRecDepth 100000 in
theorem sp_nonce_Whole (head : V8 8) (w0 : World) : Calls Tryz.prog 86 #[.agg (BV head)] w0 (Ret w0 (.agg (BV (nonceV head)))) := by
  refine enter (args := [.agg (BV head)]) Tryz.func86 rfl rfl ?_
  refine startw fun w hS => ?_
  refine rg ?_
  refine bxa hS rfl rfl rfl ?_
  intro b1 w hb1 hS
  refine ala zr173 hS rfl rfl ?_
  intro b2 w hb2 hS
  refine wq_then ?_
  refine rg ?_
  refine ala zr205 hS rfl rfl ?_
  intro b3 w hb3 hS
  refine wq_then ?_
  refine rd mo 5 (fun w => St w0 [] [(b1, .cells (BV head) 166)] w) ?_
  have hS := hS.drew
  refine dq 0 rfl (by kernel_rfl) (by kernel_rfl) (by kernel_rfl) rfl rfl (fun w hS => a_hm (4) (4) Tryz.underlying205 ⟨_, sz5⟩ rfl rfl rfl rfl rfl (by omega) (by omega) (by omega) (by omega) (by omega) ⟨rfl, rfl⟩) (hS.sublist (.cons _ (.cons _ (.cons_cons _ (List.nil_sublist _))))) ?_
  refine dq 1 rfl (by kernel_rfl) (by kernel_rfl) (by kernel_rfl) rfl rfl (fun w hS => a_all Tryz.underlying166 ⟨_, sz5⟩ rfl rfl rfl ⟨rfl, rfl⟩) (hS.sublist (.cons _ (.cons _ (.cons_cons _ (List.nil_sublist _))))) ?_
  refine dl 2 rfl (by kernel_rfl) ?_
  refine app (A := [(b2, .cells (BV (Vector.replicate 12 0)) 173), (b1, .cells (BV head) 166)]) (X := [(b3, .cells (BV (Vector.replicate 4 0)) 205)]) (R := []) sl30 (Own.blk (BV_size _) (by decide)) ((hS.napp).toend 0 rfl) rfl rfl rfl rfl (src8 Tryz.underlying30 _ (Cel.bv (hS.get 2 rfl)) Vector.length_toList) (by omega) (by omega) ?_
  intro a6 c6 X6 w hO6 hS
  rw [BV_toList, c8_app] at hO6
  refine ⟨fun _ => (hS.sublist (.cons _ (.cons_cons _ (List.nil_sublist _)))), ?_⟩
  refine dl 3 rfl (by kernel_rfl) ?_
  refine s2b Tryz.underlying173 rfl rfl rfl (by omega) ((hO6.cel hS (fun p hp => by simp [hp])).some8 (j := 0) (by first | omega | (simp; omega) | simp)) ?_
  refine ⟨fun _ => (hS.sublist (.cons _ (.cons_cons _ (List.nil_sublist _)))), ?_⟩
  refine dl 4 rfl (by kernel_rfl) ?_
  refine ld rfl rfl rfl (lv_celj 0 ag173 (hO6.cel hS (fun p hp => by simp [hp])) (by first | omega | (simp; done) | (simp; omega)) (by omega)) ?_
  refine ⟨fun _ => (hS.sublist (.cons _ (.cons_cons _ (List.nil_sublist _)))), ?_⟩
  refine dl 5 rfl (by kernel_rfl) ?_
  refine sa 0 ag173 hS rfl rfl rfl (BV_one _) rfl (BV_size _) (BV_size _) ?_
  intro w hS
  refine ⟨fun h => (by cases h), ?_⟩
  refine de (by kernel_rfl) ?_
  refine wq_then ?_
  refine wc_ret ?_
  refine fin1 (v := .agg (BV (ofl 12 (((Vector.replicate 4 0).toList) ++ head.toList)))) rfl ⟨_, rfl, lv_a ag173 (hS.get 0 rfl) (BV_size _)⟩ ?_
  exact ⟨rfl, hS.drop⟩
end Go.Proofs.XS

/- walks -/
namespace Go.Proofs.XS
open Go Go.X Go.Proofs
set_option maxRecDepth 100000 in
theorem sp_packet_check (d : Int) (s : UInt64) (t e : UInt16) (a : Option Addr) (n cap : Nat) (w0 : World) : Calls Tryz.prog 81 #[.agg #[I d, U64 s, U16 t, U16 e, .slice a n cap]] w0 (Ret w0 (errV 33 (chk d s n))) := by
  refine enter (args := [.agg #[I d, U64 s, U16 t, U16 e, .slice a n cap]]) Tryz.func81 rfl rfl ?_
  refine startw fun w hS => ?_
  refine rg ?_
  refine bxa hS rfl rfl rfl ?_
  intro b1 w hb1 hS
  refine asg rfl rfl rfl ?_
  refine wq_then ?_
  refine wc_seq ?_
  refine wc_block ?_
  refine rg ?_
  refine fan (0) (0) Tryz.underlying100 rfl sz3 (by decide) rfl rfl rfl rfl (by omega) ?_
  refine lo 0 sc3 hS rfl rfl rfl rfl rfl ?_
  refine nei rfl rfl rfl rfl ?_
  refine mv rfl rfl rfl ?_
  refine spl 7 rfl (fun hb1 => ?_) (fun hb1 => ?_)
  · skip
    try simp only [SB] at hb1
    refine fan (0) (0) Tryz.underlying100 rfl sz3 (by decide) rfl rfl rfl rfl (by omega) ?_
    refine lo 0 sc3 hS rfl rfl rfl rfl rfl ?_
    refine nei rfl rfl rfl rfl ?_
    refine pk_t rfl rfl rfl rfl ?_
    refine asg rfl rfl rfl ?_
    refine wq_then ?_
    refine wc_if rfl (fun hc1 => ?_) (fun hc1 => ?_)
    · skip
      try simp only [SB] at hc1
      refine rg ?_
      refine mki cc33 rfl rfl rfl ?_
      refine asg rfl rfl rfl ?_
      refine wq_then ?_
      refine wc_ret ?_
      refine q_block_ret ?_
      refine q_then_ret ?_
      refine fin1 (v := (.iface 33 (I (8)))) rfl rfl ?_
      refine ⟨?_, hS.drop⟩
      have hk : chk d s n = 8 := by simp only [chk]; (repeat' split) <;> omega
      rw [hk]; rfl
    · skip
      try simp only [SB] at hc1
      refine rg ?_
      refine fan (1) (1) Tryz.underlying100 rfl sz24 (by decide) rfl rfl rfl rfl (by omega) ?_
      refine lo 0 sc24 hS rfl rfl rfl rfl rfl ?_
      refine gtr rfl rfl rfl rfl ?_
      refine asg rfl rfl rfl ?_
      refine wq_then ?_
      refine wc_if rfl (fun hc2 => ?_) (fun hc2 => ?_)
      · skip
        try simp only [SB] at hc2
        refine rg ?_
        refine mki cc33 rfl rfl rfl ?_
        refine asg rfl rfl rfl ?_
        refine wq_then ?_
        refine wc_ret ?_
        refine q_block_ret ?_
        refine q_then_ret ?_
        refine fin1 (v := (.iface 33 (I (5)))) rfl rfl ?_
        refine ⟨?_, hS.drop⟩
        have hk : chk d s n = 5 := by simp only [chk]; (repeat' split) <;> omega
        rw [hk]; rfl
      · skip
        try simp only [SB] at hc2
        refine rg ?_
        refine fan (4) (4) Tryz.underlying100 rfl sz30 (by decide) rfl rfl rfl rfl (by omega) ?_
        refine lo 0 sc30 hS rfl rfl rfl rfl rfl ?_
        refine lens Tryz.underlying30 rfl rfl rfl ?_
        refine gtr rfl rfl rfl rfl ?_
        refine asg rfl rfl rfl ?_
        refine wq_then ?_
        refine wc_if rfl (fun hc3 => ?_) (fun hc3 => ?_)
        · skip
          try simp only [SB] at hc3
          refine rg ?_
          refine mki cc33 rfl rfl rfl ?_
          refine asg rfl rfl rfl ?_
          refine wq_then ?_
          refine wc_ret ?_
          refine q_block_ret ?_
          refine q_then_ret ?_
          refine fin1 (v := (.iface 33 (I (2)))) rfl rfl ?_
          refine ⟨?_, hS.drop⟩
          have hk : chk d s n = 2 := by simp only [chk]; (repeat' split) <;> omega
          rw [hk]; rfl
        · skip
          try simp only [SB] at hc3
          refine wc_skip ?_
          refine q_block_norm ?_
          refine wq_then ?_
          refine rg ?_
          refine asg rfl rfl rfl ?_
          refine wq_then ?_
          refine wc_ret ?_
          refine fin1 (v := .nilIface) rfl rfl ?_
          refine ⟨?_, hS.drop⟩
          have hk : chk d s n = 0 := by simp only [chk]; (repeat' split) <;> omega
          rw [hk]; rfl
  · skip
    try simp only [SB] at hb1
    refine no rfl rfl ?_
    refine no rfl rfl ?_
    refine no rfl rfl ?_
    refine pk_f rfl rfl rfl rfl ?_
    refine asg rfl rfl rfl ?_
    refine wq_then ?_
    refine wc_if_f rfl ?_
    refine rg ?_
    refine fan (1) (1) Tryz.underlying100 rfl sz24 (by decide) rfl rfl rfl rfl (by omega) ?_
    refine lo 0 sc24 hS rfl rfl rfl rfl rfl ?_
    refine gtr rfl rfl rfl rfl ?_
    refine asg rfl rfl rfl ?_
    refine wq_then ?_
    refine wc_if rfl (fun hc4 => ?_) (fun hc4 => ?_)
    · skip
      try simp only [SB] at hc4
      refine rg ?_
      refine mki cc33 rfl rfl rfl ?_
      refine asg rfl rfl rfl ?_
      refine wq_then ?_
      refine wc_ret ?_
      refine q_block_ret ?_
      refine q_then_ret ?_
      refine fin1 (v := (.iface 33 (I (5)))) rfl rfl ?_
      refine ⟨?_, hS.drop⟩
      have hk : chk d s n = 5 := by simp only [chk]; (repeat' split) <;> omega
      rw [hk]; rfl
    · skip
      try simp only [SB] at hc4
      refine rg ?_
      refine fan (4) (4) Tryz.underlying100 rfl sz30 (by decide) rfl rfl rfl rfl (by omega) ?_
      refine lo 0 sc30 hS rfl rfl rfl rfl rfl ?_
      refine lens Tryz.underlying30 rfl rfl rfl ?_
      refine gtr rfl rfl rfl rfl ?_
      refine asg rfl rfl rfl ?_
      refine wq_then ?_
      refine wc_if rfl (fun hc5 => ?_) (fun hc5 => ?_)
      · skip
        try simp only [SB] at hc5
        refine rg ?_
        refine mki cc33 rfl rfl rfl ?_
        refine asg rfl rfl rfl ?_
        refine wq_then ?_
        refine wc_ret ?_
        refine q_block_ret ?_
        refine q_then_ret ?_
        refine fin1 (v := (.iface 33 (I (2)))) rfl rfl ?_
        refine ⟨?_, hS.drop⟩
        have hk : chk d s n = 2 := by simp only [chk]; (repeat' split) <;> omega
        rw [hk]; rfl
      · skip
        try simp only [SB] at hc5
        refine wc_skip ?_
        refine q_block_norm ?_
        refine wq_then ?_
        refine rg ?_
        refine asg rfl rfl rfl ?_
        refine wq_then ?_
        refine wc_ret ?_
        refine fin1 (v := .nilIface) rfl rfl ?_
        refine ⟨?_, hS.drop⟩
        have hk : chk d s n = 0 := by simp only [chk]; (repeat' split) <;> omega
        rw [hk]; rfl
end Go.Proofs.XS

/- walks -/
namespace Go.Proofs.XS
open Go Go.X Go.Proofs
set_option maxRecDepth 100000 in
theorem sp_block_Xor (a b : V8 16) (w0 : World) : Calls Tryz.prog 143 #[.agg (BV a), .agg (BV b)] w0 (Ret w0 (.agg (BV (xorV a b)))) := by
  refine enter (args := [.agg (BV a), .agg (BV b)]) Tryz.func143 rfl rfl ?_
  refine startw fun w hS => ?_
  refine rg ?_
  refine bxa hS rfl rfl rfl ?_
  intro b2 w hb2 hS
  refine bxa hS rfl rfl rfl ?_
  intro b3 w hb3 hS
  refine ala zr22 hS rfl rfl ?_
  intro b4 w hb4 hS
  refine wq_then ?_
  refine wc_seq ?_
  refine rg ?_
  refine mv rfl rfl rfl ?_
  refine wq_then ?_
  refine wc_block ?_
  refine wc_loop (σ := Nat) (fun k => [(2, Ptr b2 0), (3, Ptr b3 0), (4, Ptr b4 0), (6, I ((k : Int)))])
    (fun k w => (k ≤ 16) ∧ St w0 [] [(b4, .cells (BV (Vector.replicate 16 0)) 22), (b3, .cells (BV b) 22), (b2, .cells (BV (fill8 16 (fun i => gv a i ^^^ gv b i) a k)) 22)] w) (fun k => 16 - k) 0 ⟨rfl, rfl, rfl, rfl, trivial⟩ ⟨by omega, (by simp only [Nat.zero_mul, Nat.add_zero, fill8_0, fill32_0]; exact hS)⟩ ?_
  rintro k w ⟨hk, hS⟩
  refine rg ?_
  refine lss rfl rfl rfl rfl ?_
  refine wq_then ?_
  refine wc_seq ?_
  refine wc_if rfl (fun hc1 => ?_) (fun hc1 => ?_)
  · skip
    try simp only [SB] at hc1
    refine wc_skip ?_
    refine wq_then ?_
    refine wc_seq ?_
    refine wc_block ?_
    refine rg ?_
    refine mv rfl rfl rfl ?_
    refine asg rfl rfl rfl ?_
    refine wq_then ?_
    refine wc_draw mo 7 (fun w => St w0 [] [(b4, .cells (BV (Vector.replicate 16 0)) 22), (b3, .cells (BV b) 22), (b2, .cells (BV (fill8 16 (fun i => gv a i ^^^ gv b i) a k)) 22)] w) ?_
    have hS := hS.drew
    refine dq 0 rfl (by kernel_rfl) (by kernel_rfl) (by kernel_rfl) rfl rfl (fun w hS => mv rfl rfl rfl ⟨rfl, rfl⟩) hS ?_
    refine dq 1 rfl (by kernel_rfl) (by kernel_rfl) (by kernel_rfl) rfl rfl (fun w hS => ian (k) (k) Tryz.underlying22 sz5 rfl rfl rfl rfl (by omega) (by omega) (by omega) ⟨rfl, rfl⟩) hS ?_
    refine dq 2 rfl (by kernel_rfl) (by kernel_rfl) (by kernel_rfl) rfl rfl (fun w hS => lo 2 sc5 hS rfl rfl rfl rfl (BV_get _ k (by omega)) ⟨rfl, rfl⟩) hS ?_
    refine dq 3 rfl (by kernel_rfl) (by kernel_rfl) (by kernel_rfl) rfl rfl (fun w hS => mv rfl rfl rfl ⟨rfl, rfl⟩) hS ?_
    refine dq 4 rfl (by kernel_rfl) (by kernel_rfl) (by kernel_rfl) rfl rfl (fun w hS => ian (k) (k) Tryz.underlying22 sz5 rfl rfl rfl rfl (by omega) (by omega) (by omega) ⟨rfl, rfl⟩) hS ?_
    refine dq 5 rfl (by kernel_rfl) (by kernel_rfl) (by kernel_rfl) rfl rfl (fun w hS => lo 1 sc5 hS rfl rfl rfl rfl (BV_get _ k (by omega)) ⟨rfl, rfl⟩) hS ?_
    refine dq 6 rfl (by kernel_rfl) (by kernel_rfl) (by kernel_rfl) rfl rfl (fun w hS => xor8 rfl rfl rfl rfl ⟨rfl, rfl⟩) hS ?_
    refine dl 7 rfl (by kernel_rfl) ?_
    refine ian (k) (k) Tryz.underlying22 sz5 rfl rfl rfl rfl (by omega) (by omega) (by omega) ?_
    refine ⟨fun h => (by cases h), ?_⟩
    refine dl 8 rfl (by kernel_rfl) ?_
    refine st (cs' := BV (fill8 16 (fun i => gv a i ^^^ gv b i) a (k + 1))) 2 sz5 hS rfl rfl rfl rfl rfl rfl (by rw [BV_size]; omega) (by rw [BV_set, gv_fill_ge _ _ (Nat.le_refl _)]; exact congrArg BV (fill8_succ (fun i => gv a i ^^^ gv b i) a k)) ?_
    intro w hS
    refine ⟨fun h => (by cases h), ?_⟩
    refine de (by kernel_rfl) ?_
    refine q_block_norm ?_
    refine wq_then ?_
    refine wc_region ?_
    refine addi (by omega) (by omega) rfl rfl rfl rfl ?_
    refine mv rfl rfl rfl ?_
    refine again_q (k + 1) ⟨rfl, rfl, rfl, lkI rfl (by first | omega | rfl), trivial⟩ ⟨by omega, hS⟩ (by omega)
  · skip
    try simp only [SB] at hc1
    refine wc_exit ?_
    refine q_then_exit ?_
    refine q_then_exit ?_
    refine q_block_hit ?_
    refine wq_then ?_
    refine rg ?_
    refine la 2 ag22 hS rfl rfl rfl rfl (BV_size _) ?_
    refine sa 0 ag22 hS rfl rfl rfl (BV_one _) rfl (BV_size _) (BV_size _) ?_
    intro w hS
    refine wq_then ?_
    refine wc_ret ?_
    refine fin1 (v := .agg (BV (fill8 16 (fun i => gv a i ^^^ gv b i) a k))) rfl ⟨_, rfl, lv_a ag22 (hS.get 0 rfl) (BV_size _)⟩ ?_
    refine ⟨?_, hS.drop⟩
    have hk4 : k = 16 := by omega
    subst hk4; rw [fill8_n]; rfl
end Go.Proofs.XS

/- walks -/
namespace Go.Proofs.XS
open Go Go.X Go.Proofs
set_option maxRecDepth 100000 in
theorem sp_table_Table_Cipher (t c : Nat) (key : V8 16) (w0 : World) (hT : TabAt w0 t c key) : Calls Tryz.prog 144 #[Ptr t 0] w0 (Ret w0 (Ptr c 0)) := by
  refine enter (args := [Ptr t 0]) Tryz.func144 rfl rfl ?_
  refine startw fun w hS => ?_
  obtain ⟨⟨T, hT1⟩, E, hC⟩ := id hT
  refine rg ?_
  refine asg rfl rfl rfl ?_
  refine wq_then ?_
  refine wc_seq ?_
  refine rg ?_
  refine mv rfl rfl rfl ?_
  refine eqpn Tryz.underlying77 rfl rfl rfl rfl ?_
  refine wq_then ?_
  refine wc_if_f rfl ?_
  refine wc_skip ?_
  refine wq_then ?_
  refine rg ?_
  refine mv rfl rfl rfl ?_
  refine nilp rfl rfl rfl ?_
  refine fan (0) (0) Tryz.underlying139 rfl sz79 (by decide) rfl rfl rfl rfl (by omega) ?_
  refine lod hT1 List.not_mem_nil sc79 hS rfl rfl rfl (cat_l (a := 1) rfl (by omega) rfl) ?_
  refine asg rfl rfl rfl ?_
  refine wq_then ?_
  refine wc_ret ?_
  refine fin1 (v := Ptr c 0) rfl rfl ?_
  exact ⟨rfl, hS.drop⟩
end Go.Proofs.XS

/- walks -/
namespace Go.Proofs.XS
open Go Go.X Go.Proofs
set_option maxRecDepth 100000 in
theorem sp_table_Table_right (t c : Nat) (key : V8 16) (w0 : World) (hT : TabAt w0 t c key) : Calls Tryz.prog 174 #[Ptr t 0] w0 (Ret w0 (Ptr t 0)) := by
  refine enter (args := [Ptr t 0]) Tryz.func174 rfl rfl ?_
  refine startw fun w hS => ?_
  obtain ⟨⟨T, hT1⟩, E, hC⟩ := id hT
  refine rg ?_
  refine asg rfl rfl rfl ?_
  refine wq_then ?_
  refine wc_seq ?_
  refine rg ?_
  refine mv rfl rfl rfl ?_
  refine eqpn Tryz.underlying77 rfl rfl rfl rfl ?_
  refine wq_then ?_
  refine wc_if_f rfl ?_
  refine wc_skip ?_
  refine wq_then ?_
  refine rg ?_
  refine mv rfl rfl rfl ?_
  refine asg rfl rfl rfl ?_
  refine wq_then ?_
  refine wc_ret ?_
  refine fin1 (v := Ptr t 0) rfl rfl ?_
  exact ⟨rfl, hS.drop⟩
end Go.Proofs.XS

/- walks -/
namespace Go.Proofs.XS
open Go Go.X Go.Proofs
set_option maxRecDepth 100000 in
theorem sp_table_Table_Dollar (t c : Nat) (key : V8 16) (w0 : World) (hT : TabAt w0 t c key) : Calls Tryz.prog 147 #[Ptr t 0] w0 (Ret w0 (.agg (BV (lastL key 0)))) := by
  refine enter (args := [Ptr t 0]) Tryz.func147 rfl rfl ?_
  refine startw fun w hS => ?_
  obtain ⟨⟨T, hT1⟩, E, hC⟩ := id hT
  refine rg ?_
  refine ala zr22 hS rfl rfl ?_
  intro b2 w hb2 hS
  refine wq_then ?_
  refine rg ?_
  refine mv rfl rfl rfl ?_
  refine cv cf174 hS rfl rfl rfl rfl rfl (sp_table_Table_right (t) (c) (key) _ (hT.st hS)) ?_
  intro w hS
  refine nilp rfl rfl rfl ?_
  refine fan (17) (17) Tryz.underlying139 rfl sz22 (by decide) rfl rfl rfl rfl (by omega) ?_
  refine lpd (u := .agg (BV (lastL key 0))) hT1 List.not_mem_nil ag22 hS rfl rfl rfl (le_sz (a := 1057) (cat_size (a := 1) (b := 1056) rfl (cat_size (a := 16) (b := 1040) (BV_size _) (cat_size (a := 16) (b := 1024) (BV_size _) (BV_size _)))) (by omega)) (cat_xr (a := 1) (o' := 16) rfl (by omega) (cat_xr (a := 16) (o' := 0) (BV_size _) (by omega) (cat_xl (a := 16) (BV_size _) (by omega) (ext_all (BV_size _))))) rfl ?_
  refine sa 0 ag22 hS rfl rfl rfl (BV_one _) rfl (BV_size _) (BV_size _) ?_
  intro w hS
  refine wq_then ?_
  refine wc_ret ?_
  refine fin1 (v := .agg (BV (lastL key 0))) rfl ⟨_, rfl, lv_a ag22 (hS.get 0 rfl) (BV_size _)⟩ ?_
  exact ⟨rfl, hS.drop⟩
end Go.Proofs.XS

/- walks -/
namespace Go.Proofs.XS
open Go Go.X Go.Proofs
set_option maxRecDepth 100000 in
theorem sp_block_All_1 (m lp pb E n cap : Nat) (a : Option Addr) (bs : List UInt8) (J : Nat → World → Prop) (hn : bs.length = n) (hN : n ≤ 1000000) (hcap : n ≤ cap) (hJ : ∀ (k : Nat) (W : World), J k W → W.heap[pb]? = some (.cells #[.slice a n cap] E) ∧ Cel W a (c8 bs)) (hY : ∀ (k : Nat) (W : World), k < n / 16 → J k W → YieldAt (Fe none) m Tryz.prog lp #[I ((k + 1 : Nat) : Int), .agg (BV (blk bs k))] W fun e W' => e = .returned (.bool true) ∧ J (k + 1) W') (w : World) (h0 : J 0 w) : CallsIn (Fe none) (m + 1) Tryz.prog 172 #[.func (.yield lp) #[] #[], Ptr pb 0] w fun e W' => (∃ v, e = .returned v) ∧ J (n / 16) W' := by
  refine enterI (args := [.func (.yield lp) #[] #[], Ptr pb 0]) Tryz.func172 rfl rfl ?_
  refine rgi ?_
  refine wi rfl (asg rfl rfl rfl ?_)
  refine wqi_then ?_
  refine wci_block ?_
  refine wci_loop (σ := Nat) (fun k => [(0, (.func (.yield lp) #[] #[])), (1, Ptr pb 0), (3, I (((k + 1 : Nat) : Int)))])
    (fun k w => k ≤ n / 16 ∧ J k w) (fun k => n / 16 - k) 0 ⟨rfl, rfl, rfl, trivial⟩ ⟨by omega, h0⟩ ?_
  rintro k w ⟨hk, hJk⟩
  obtain ⟨hb, hc⟩ := hJ k w hJk
  refine wci_seq ?_
  refine rgi ?_
  refine wi rfl (mv rfl rfl rfl ?_)
  refine wi rfl (muli (by omega) (by omega) rfl rfl rfl rfl ?_)
  refine wi rfl (ld rfl rfl rfl (lv_c sc30 hb rfl) ?_)
  refine wi rfl (lens Tryz.underlying30 rfl rfl rfl ?_)
  refine wi rfl (leq rfl rfl rfl rfl ?_)
  refine wqi_then ?_
  refine wci_if rfl (fun hc1 => ?_) (fun hc1 => ?_)
  · skip
    try simp only [SB] at hc1
    refine wci_skip ?_
    refine wqi_then ?_
    refine wci_seq ?_
    refine wci_block ?_
    refine rgi ?_
    refine wi rfl (mv rfl rfl rfl ?_)
    refine wi rfl (mv rfl rfl rfl ?_)
    refine wi rfl (ld rfl rfl rfl (lv_c sc30 hb rfl) ?_)
    refine wi rfl (mv rfl rfl rfl ?_)
    refine wi rfl (subi (by omega) (by omega) rfl rfl rfl rfl ?_)
    refine wi rfl (muli (by omega) (by omega) rfl rfl rfl rfl ?_)
    refine wi rfl (mv rfl rfl rfl ?_)
    refine wi rfl (muli (by omega) (by omega) rfl rfl rfl rfl ?_)
    refine wi rfl (s_lh (k * 16) ((k + 1) * 16) Tryz.underlying30 sz5 rfl rfl rfl rfl rfl (by omega) (by omega) (by omega) (by omega) ?_)
    refine wi rfl (s2b Tryz.underlying22 rfl rfl rfl (by omega) ((((hc).take8 ((k + 1) * 16)).drop8 (lo := k * 16) (cap := cap) (by first | omega | (simp; omega) | simp)).some8 (j := 0) (by first | omega | (simp; omega) | simp)) ?_)
    refine wi rfl (ld rfl rfl rfl (lv_celj 0 ag22 (hc.drop8 (lo := k * 16) (cap := cap) (by omega)) (by simp; omega) (by omega)) ?_)
    refine yld rfl rfl rfl rfl (hY k w (by omega) hJk) ?_
    rintro _ w ⟨rfl, hJk⟩
    refine ⟨_, rfl, ?_⟩
    refine wi rfl (notb rfl rfl rfl ?_)
    refine wqi_then ?_
    refine wci_if_f rfl ?_
    refine wci_skip ?_
    refine q_block_norm ?_
    refine wqi_then ?_
    refine wci_region ?_
    refine wi rfl (mv rfl rfl rfl ?_)
    refine wi rfl (addi (by omega) (by omega) rfl rfl rfl rfl ?_)
    refine wi rfl (asg rfl rfl rfl ?_)
    refine again_q (k + 1) ⟨rfl, rfl, lkI rfl (by first | omega | rfl), trivial⟩ ⟨by omega, hJk⟩ (by omega)
  · skip
    try simp only [SB] at hc1
    have hk4 : k = n / 16 := by omega
    refine wci_exit ?_
    refine q_then_exit ?_
    refine q_then_exit ?_
    refine q_block_hit ?_
    refine q_norm_ret ?_
    refine fin0 rfl ?_
    exact ⟨⟨_, rfl⟩, hk4 ▸ hJk⟩
end Go.Proofs.XS

/- walks -/
namespace Go.Proofs.XS
open Go Go.X Go.Proofs
set_option maxRecDepth 100000 in
theorem sp_block_All (a : Option Addr) (n cap : Nat) (w0 : World) : Calls Tryz.prog 141 #[.slice a n cap] w0 (RetS w0 (fun v L => ∃ b, v = .func (.func 172) #[] #[Ptr b 0] ∧ L = [(b, .cells #[.slice a n cap] 30)])) := by
  refine enter (args := [.slice a n cap]) Tryz.func141 rfl rfl ?_
  refine startw fun w hS => ?_
  refine rg ?_
  refine bx1 hS rfl rfl rfl rfl ?_
  intro b1 w hb1 hS
  refine asg rfl rfl rfl ?_
  refine wq_then ?_
  refine rg ?_
  refine mkf rfl rfl rfl ?_
  refine asg rfl rfl rfl ?_
  refine wq_then ?_
  refine wc_ret ?_
  refine fin1 (v := .func (.func 172) #[] #[Ptr b1 0]) rfl rfl ?_
  exact ⟨_, _, rfl, ⟨b1, rfl, rfl⟩, hS⟩
end Go.Proofs.XS

/- walks -/
namespace Go.Proofs.XS
open Go Go.X Go.Proofs
set_option maxRecDepth 100000 in
theorem sp_table_Table_At (t c : Nat) (key : V8 16) (i : Nat) (i_ : Int) (w0 : World) (hi_ : i_ = (i : Int)) (hT : TabAt w0 t c key) (hi : i < 64) : Calls Tryz.prog 201 #[Ptr t 0, I i_] w0 (Ret w0 (.agg (BV (blkAt key i)))) := by
  subst hi_
  refine enter (args := [Ptr t 0, I (i : Int)]) Tryz.func201 rfl rfl ?_
  refine startw fun w hS => ?_
  obtain ⟨⟨T, hT1⟩, E, hC⟩ := id hT
  refine rg ?_
  refine ala zr22 hS rfl rfl ?_
  intro b4 w hb4 hS
  refine wq_then ?_
  refine wc_seq ?_
  refine rg ?_
  refine mv rfl rfl rfl ?_
  refine lss rfl rfl rfl rfl ?_
  refine mv rfl rfl rfl ?_
  refine spl 7 rfl (fun hb1 => ?_) (fun hb1 => ?_)
  · skip
    try simp only [SB] at hb1
    exfalso; omega
  · skip
    try simp only [SB] at hb1
    refine mv rfl rfl rfl ?_
    refine geq rfl rfl rfl rfl ?_
    refine pk_f rfl rfl rfl rfl ?_
    refine wq_then ?_
    refine wc_if rfl (fun hc1 => ?_) (fun hc1 => ?_)
    · skip
      try simp only [SB] at hc1
      exfalso; omega
    · skip
      try simp only [SB] at hc1
      refine wc_skip ?_
      refine wq_then ?_
      refine rg ?_
      refine mv rfl rfl rfl ?_
      refine cv cf174 hS rfl rfl rfl rfl rfl (sp_table_Table_right (t) (c) (key) _ (hT.st hS)) ?_
      intro w hS
      refine mv rfl rfl rfl ?_
      refine nilp rfl rfl rfl ?_
      refine fan (33) (33) Tryz.underlying139 rfl sz137 (by decide) rfl rfl rfl rfl (by omega) ?_
      refine ian (i) (33 + i * 16) Tryz.underlying137 sz22 rfl rfl rfl rfl (by omega) (by omega) (by omega) ?_
      refine lpd (u := .agg (BV (seg8 16 (blkL key 64) (i * 16)))) hT1 List.not_mem_nil ag22 hS rfl rfl rfl (le_sz (a := 1057) (cat_size (a := 1) (b := 1056) rfl (cat_size (a := 16) (b := 1040) (BV_size _) (cat_size (a := 16) (b := 1024) (BV_size _) (BV_size _)))) (by omega)) (cat_xr (a := 1) (o' := 32 + i * 16) rfl (by omega) (cat_xr (a := 16) (o' := 16 + i * 16) (BV_size _) (by omega) (cat_xr (a := 16) (o' := i * 16) (BV_size _) (by omega) (BV_extract 16 _ (i * 16) (by omega))))) rfl ?_
      refine sa 0 ag22 hS rfl rfl rfl (BV_one _) rfl (BV_size _) (BV_size _) ?_
      intro w hS
      refine wq_then ?_
      refine wc_ret ?_
      refine fin1 (v := .agg (BV (seg8 16 (blkL key 64) (i * 16)))) rfl ⟨_, rfl, lv_a ag22 (hS.get 0 rfl) (BV_size _)⟩ ?_
      exact ⟨rfl, hS.drop⟩
end Go.Proofs.XS

/- walks -/
namespace Go.Proofs.XS
open Go Go.X Go.Proofs
set_option maxRecDepth 100000 in
theorem sp_math_bits_TrailingZeros64 (x : UInt64) (w0 : World) (hx : x ≠ 0) (hG : Gl 1 w0) : Calls Tryz.prog 205 #[U64 x] w0 (Ret w0 (I ((ctz x : Nat) : Int))) := by
  refine enter (args := [U64 x]) Tryz.func205 rfl rfl ?_
  refine startw fun w hS => ?_
  have hi := ctzi_lt x
  simp only [ctzi] at hi
  refine rg ?_
  refine asg rfl rfl rfl ?_
  refine wq_then ?_
  refine wc_seq ?_
  refine rg ?_
  refine mv rfl rfl rfl ?_
  refine eqi rfl rfl rfl rfl ?_
  refine wq_then ?_
  refine wc_if rfl (fun hc1 => ?_) (fun hc1 => ?_)
  · skip
    try simp only [SB] at hc1
    exact absurd (UInt64.toNat_inj.1 (by simpa using hc1)) hx
  · skip
    try simp only [SB] at hc1
    refine wc_skip ?_
    refine wq_then ?_
    refine rg ?_
    refine mv rfl rfl rfl ?_
    refine mv rfl rfl rfl ?_
    refine negu64 rfl rfl rfl ?_
    refine and64 rfl rfl rfl rfl ?_
    refine mul64 (q := (285870213051353865 : UInt64)) rfl rfl rfl rfl ?_
    refine shrn64 (58) (by omega) rfl rfl rfl rfl ?_
    refine ian ((shr64 ((x &&& -x) * 285870213051353865) 58).toNat) (((shr64 ((x &&& -x) * 285870213051353865) 58).toNat)) Tryz.underlying283 sz5 rfl rfl rfl rfl (by omega) (by omega) (by omega) ?_
    refine ldc sc5 rfl rfl rfl (gl_load (hG.st hS) (by omega)) ?_
    refine cvi Tryz.underlying3 ⟨_, Tryz.underlying5⟩ (by have := (gl deBl ((shr64 ((x &&& -x) * 285870213051353865) 58).toNat)).toNat_lt; omega) (by have := (gl deBl ((shr64 ((x &&& -x) * 285870213051353865) 58).toNat)).toNat_lt; omega) rfl rfl rfl ?_
    refine asg rfl rfl rfl ?_
    refine wq_then ?_
    refine wc_ret ?_
    refine fin1 (v := I (((gl deBl ((shr64 ((x &&& -x) * 285870213051353865) 58).toNat)).toNat : Int))) rfl rfl ?_
    refine ⟨?_, hS.drop⟩
    rw [ctz, if_neg hx]; rfl
end Go.Proofs.XS

/- walks -/
namespace Go.Proofs.XS
open Go Go.X Go.Proofs
set_option maxRecDepth 100000 in
theorem sp_bits_Zeros (x : UInt64) (w0 : World) (hx : x ≠ 0) (hG : Gl 1 w0) : Calls Tryz.prog 202 #[U64 x] w0 (Ret w0 (I ((ctz x : Nat) : Int))) := by
  refine enter (args := [U64 x]) Tryz.func202 rfl rfl ?_
  refine startw fun w hS => ?_
  refine rg ?_
  refine asg rfl rfl rfl ?_
  refine wq_then ?_
  refine rg ?_
  refine mv rfl rfl rfl ?_
  refine cv cf205 hS rfl rfl rfl rfl rfl (sp_math_bits_TrailingZeros64 (x) _ (by assumption) (hG.st hS)) ?_
  intro w hS
  refine asg rfl rfl rfl ?_
  refine wq_then ?_
  refine wc_ret ?_
  refine fin1 (v := I ((ctz x : Nat) : Int)) rfl rfl ?_
  exact ⟨rfl, hS.drop⟩
end Go.Proofs.XS

/- walks -/
namespace Go.Proofs.XS
open Go Go.X Go.Proofs
set_option maxRecDepth 100000 in
theorem sp_table_Table_For (t c : Nat) (key : V8 16) (x : UInt64) (w0 : World) (hT : TabAt w0 t c key) (hx : x ≠ 0) (hG : Gl 1 w0) : Calls Tryz.prog 173 #[Ptr t 0, U64 x] w0 (Ret w0 (.agg (BV (forN key x)))) := by
  refine enter (args := [Ptr t 0, U64 x]) Tryz.func173 rfl rfl ?_
  refine startw fun w hS => ?_
  obtain ⟨⟨T, hT1⟩, E, hC⟩ := id hT
  have hlt := ctz_lt x hx
  refine rg ?_
  refine ala zr22 hS rfl rfl ?_
  intro b4 w hb4 hS
  refine wq_then ?_
  refine rg ?_
  refine mv rfl rfl rfl ?_
  refine mv rfl rfl rfl ?_
  refine cv cf202 hS rfl rfl rfl rfl rfl (sp_bits_Zeros (x) _ (by assumption) (hG.st hS)) ?_
  intro w hS
  refine cv cf201 hS rfl rfl rfl rfl rfl (sp_table_Table_At (t) (c) (key) ((ctz x)) _ _ (by omega) (hT.st hS) (by omega)) ?_
  intro w hS
  refine sa 0 ag22 hS rfl rfl rfl (BV_one _) rfl (BV_size _) (BV_size _) ?_
  intro w hS
  refine wq_then ?_
  refine wc_ret ?_
  refine fin1 (v := .agg (BV (blkAt key (ctz x)))) rfl ⟨_, rfl, lv_a ag22 (hS.get 0 rfl) (BV_size _)⟩ ?_
  exact ⟨rfl, hS.drop⟩
end Go.Proofs.XS

/- walks -/
namespace Go.Proofs.XS
open Go Go.X Go.Proofs
set_option maxRecDepth 100000 in
theorem sp_offset_Next (t c : Nat) (key : V8 16) (last : V8 16) (x : UInt64) (w0 : World) (hT : TabAt w0 t c key) (hx : x ≠ 0) (hG : Gl 1 w0) : Calls Tryz.prog 142 #[Ptr t 0, .agg (BV last), U64 x] w0 (Ret w0 (.agg (BV (nextO key last x)))) := by
  refine enter (args := [Ptr t 0, .agg (BV last), U64 x]) Tryz.func142 rfl rfl ?_
  refine startw fun w hS => ?_
  obtain ⟨⟨T, hT1⟩, E, hC⟩ := id hT
  refine rg ?_
  refine bxa hS rfl rfl rfl ?_
  intro b4 w hb4 hS
  refine ala zr22 hS rfl rfl ?_
  intro b6 w hb6 hS
  refine wq_then ?_
  refine rd mo 5 (fun w => St w0 [] [(b6, .cells (BV (Vector.replicate 16 0)) 22), (b4, .cells (BV last) 22)] w) ?_
  have hS := hS.drew
  refine dq 0 rfl (by kernel_rfl) (by kernel_rfl) (by kernel_rfl) rfl rfl (fun w hS => la 1 ag22 hS rfl rfl rfl rfl (BV_size _) ⟨rfl, rfl⟩) hS ?_
  refine dq 1 rfl (by kernel_rfl) (by kernel_rfl) (by kernel_rfl) rfl rfl (fun w hS => mv rfl rfl rfl ⟨rfl, rfl⟩) hS ?_
  refine dq 2 rfl (by kernel_rfl) (by kernel_rfl) (by kernel_rfl) rfl rfl (fun w hS => mv rfl rfl rfl ⟨rfl, rfl⟩) hS ?_
  refine dl 3 rfl (by kernel_rfl) ?_
  refine cv cf173 hS rfl rfl rfl rfl rfl (sp_table_Table_For (t) (c) (key) (x) _ (hT.st hS) (by assumption) (hG.st hS)) ?_
  intro w hS
  refine ⟨fun _ => hS, ?_⟩
  refine dl 4 rfl (by kernel_rfl) ?_
  refine cv cf143 hS rfl rfl rfl rfl rfl (sp_block_Xor (last) ((forN key x)) _) ?_
  intro w hS
  refine ⟨fun _ => hS, ?_⟩
  refine dl 5 rfl (by kernel_rfl) ?_
  refine sa 0 ag22 hS rfl rfl rfl (BV_one _) rfl (BV_size _) (BV_size _) ?_
  intro w hS
  refine ⟨fun h => (by cases h), ?_⟩
  refine de (by kernel_rfl) ?_
  refine wq_then ?_
  refine wc_ret ?_
  refine fin1 (v := .agg (BV (xorV last (forN key x)))) rfl ⟨_, rfl, lv_a ag22 (hS.get 0 rfl) (BV_size _)⟩ ?_
  exact ⟨rfl, hS.drop⟩
end Go.Proofs.XS

/- walks -/
namespace Go.Proofs.XS
open Go Go.X Go.Proofs
set_option maxRecDepth 100000 in
theorem sp_hash_state_add (t c : Nat) (key : V8 16) (sum off part : V8 16) (k : Nat) (k_ : Int) (w0 : World) (hk_ : k_ = (k : Int)) (hT : TabAt w0 t c key) (hk0 : 0 < k) (hkN : k < 1000000) (hG : Gl 1 w0) : Calls Tryz.prog 175 #[.agg (BV sum ++ BV off), Ptr t 0, I k_, .agg (BV part)] w0 (Ret w0 (.agg (BV (addS key sum off part k) ++ BV (addO key off k)))) := by
  subst hk_
  refine enter (args := [.agg (BV sum ++ BV off), Ptr t 0, I (k : Int), .agg (BV part)]) Tryz.func175 rfl rfl ?_
  refine startw fun w hS => ?_
  obtain ⟨⟨T, hT1⟩, E, hC⟩ := id hT
  have hx := toU64_ne k hk0 hkN
  refine rg ?_
  refine bxa hS rfl rfl rfl ?_
  intro b4 w hb4 hS
  refine bxa hS rfl rfl rfl ?_
  intro b7 w hb7 hS
  refine ala zr262 hS rfl rfl ?_
  intro b8 w hb8 hS
  refine wq_then ?_
  refine rg ?_
  refine mv rfl rfl rfl ?_
  refine fan (16) (16) Tryz.underlying262 rfl sz22 (by decide) rfl rfl rfl rfl (by omega) ?_
  refine lp (u := .agg (BV off)) 2 ag22 hS rfl rfl rfl rfl (le_sz (a := 32) (cat_size (a := 16) (b := 16) (BV_size _) (BV_size _)) (by omega)) (cat_xr (a := 16) (o' := 0) (BV_size _) (by omega) (ext_all (BV_size _))) rfl ?_
  refine mv rfl rfl rfl ?_
  refine cvu64 Tryz.underlying24 ⟨_, Tryz.underlying3⟩ rfl rfl rfl ?_
  refine cv cf142 hS rfl rfl rfl rfl rfl (sp_offset_Next (t) (c) (key) (off) ((toU64 ((k : Int)))) _ (hT.st hS) (by assumption) (hG.st hS)) ?_
  intro w hS
  refine fan (16) (16) Tryz.underlying262 rfl sz22 (by decide) rfl rfl rfl rfl (by omega) ?_
  refine spp (cs' := BV sum ++ BV (nextO key off (toU64 ((k : Int))))) 2 ag22 hS rfl rfl rfl (BV_one _) rfl (le_sz (a := 32) (cat_size (a := 16) (b := 16) (BV_size _) (BV_size _)) (by omega)) (BV_size _) (cat_pr (a := 16) (o' := 0) (BV_size _) (by omega) (ple2 (BV_size _) (BV_size _) (by omega)) (put_all (BV_size _) (BV_size _))) ?_
  intro w hS
  refine wq_then ?_
  refine rd mo 10 (fun w => St w0 [] [(b8, .cells (BV (Vector.replicate 16 0) ++ BV (Vector.replicate 16 0)) 262), (b7, .cells (BV part) 22), (b4, .cells (BV sum ++ BV (nextO key off (toU64 ((k : Int))))) 262)] w) ?_
  have hS := hS.drew
  refine dq 0 rfl (by kernel_rfl) (by kernel_rfl) (by kernel_rfl) rfl rfl (fun w hS => fan (0) (0) Tryz.underlying262 rfl sz22 (by decide) rfl rfl rfl rfl (by omega) ⟨rfl, rfl⟩) hS ?_
  refine dq 1 rfl (by kernel_rfl) (by kernel_rfl) (by kernel_rfl) rfl rfl (fun w hS => lp (u := .agg (BV sum)) 2 ag22 hS rfl rfl rfl rfl (le_sz (a := 32) (cat_size (a := 16) (b := 16) (BV_size _) (BV_size _)) (by omega)) (cat_xl (a := 16) (BV_size _) (by omega) (ext_all (BV_size _))) rfl ⟨rfl, rfl⟩) hS ?_
  refine dq 2 rfl (by kernel_rfl) (by kernel_rfl) (by kernel_rfl) rfl rfl (fun w hS => mv rfl rfl rfl ⟨rfl, rfl⟩) hS ?_
  refine dq 4 rfl (by kernel_rfl) (by kernel_rfl) (by kernel_rfl) rfl rfl (fun w hS => la 1 ag22 hS rfl rfl rfl rfl (BV_size _) ⟨rfl, rfl⟩) hS ?_
  refine dq 5 rfl (by kernel_rfl) (by kernel_rfl) (by kernel_rfl) rfl rfl (fun w hS => fan (16) (16) Tryz.underlying262 rfl sz22 (by decide) rfl rfl rfl rfl (by omega) ⟨rfl, rfl⟩) hS ?_
  refine dq 6 rfl (by kernel_rfl) (by kernel_rfl) (by kernel_rfl) rfl rfl (fun w hS => lp (u := .agg (BV (nextO key off (toU64 ((k : Int)))))) 2 ag22 hS rfl rfl rfl rfl (le_sz (a := 32) (cat_size (a := 16) (b := 16) (BV_size _) (BV_size _)) (by omega)) (cat_xr (a := 16) (o' := 0) (BV_size _) (by omega) (ext_all (BV_size _))) rfl ⟨rfl, rfl⟩) hS ?_
  refine dl 3 rfl (by kernel_rfl) ?_
  refine cv cf144 hS rfl rfl rfl rfl rfl (sp_table_Table_Cipher (t) (c) (key) _ (hT.st hS)) ?_
  intro w hS
  refine ⟨fun _ => hS, ?_⟩
  refine dl 7 rfl (by kernel_rfl) ?_
  refine cv cf143 hS rfl rfl rfl rfl rfl (sp_block_Xor (part) ((nextO key off (toU64 ((k : Int))))) _) ?_
  intro w hS
  refine ⟨fun _ => hS, ?_⟩
  refine dl 8 rfl (by kernel_rfl) ?_
  refine cv cf71 hS rfl rfl rfl rfl rfl (sp_fast_Cipher_Encrypt (c) (_) (key) ((xorV part (nextO key off (toU64 ((k : Int)))))) _ (hS.old hC List.not_mem_nil)) ?_
  intro w hS
  refine ⟨fun _ => hS, ?_⟩
  refine dl 9 rfl (by kernel_rfl) ?_
  refine cv cf143 hS rfl rfl rfl rfl rfl (sp_block_Xor (sum) ((enc key (xorV part (nextO key off (toU64 ((k : Int))))))) _) ?_
  intro w hS
  refine ⟨fun _ => hS, ?_⟩
  refine dl 10 rfl (by kernel_rfl) ?_
  refine fan (0) (0) Tryz.underlying262 rfl sz22 (by decide) rfl rfl rfl rfl (by omega) ?_
  refine ⟨fun h => (by cases h), ?_⟩
  refine dl 11 rfl (by kernel_rfl) ?_
  refine spp (cs' := BV (xorV sum (enc key (xorV part (nextO key off (toU64 ((k : Int))))))) ++ BV (nextO key off (toU64 ((k : Int))))) 2 ag22 hS rfl rfl rfl (BV_one _) rfl (le_sz (a := 32) (cat_size (a := 16) (b := 16) (BV_size _) (BV_size _)) (by omega)) (BV_size _) (cat_pl (a := 16) (BV_size _) (ple (BV_size _) (by omega)) (put_all (BV_size _) (BV_size _))) ?_
  intro w hS
  refine ⟨fun h => (by cases h), ?_⟩
  refine de (by kernel_rfl) ?_
  refine wq_then ?_
  refine rg ?_
  refine la 2 ag262 hS rfl rfl rfl rfl (cat_size (a := 16) (b := 16) (BV_size _) (BV_size _)) ?_
  refine sa 0 ag262 hS rfl rfl rfl (cat_one (BV_one _) (BV_one _)) rfl (cat_size (a := 16) (b := 16) (BV_size _) (BV_size _)) (cat_size (a := 16) (b := 16) (BV_size _) (BV_size _)) ?_
  intro w hS
  refine wq_then ?_
  refine wc_ret ?_
  refine fin1 (v := .agg (BV (xorV sum (enc key (xorV part (nextO key off (toU64 ((k : Int))))))) ++ BV (nextO key off (toU64 ((k : Int)))))) rfl ⟨_, rfl, lv_a ag262 (hS.get 0 rfl) (cat_size (a := 16) (b := 16) (BV_size _) (BV_size _))⟩ ?_
  exact ⟨rfl, hS.drop⟩
end Go.Proofs.XS

/- walks -/
namespace Go.Proofs.XS
open Go Go.X Go.Proofs
set_option maxRecDepth 100000 in
theorem sp_block_Pad (a : Option Addr) (n cap : Nat) (bs : List UInt8) (w0 : World) (hn : bs.length = n) (hN : n ≤ 1000000) (hc : Cel w0 a (c8 bs)) (h16 : n < 16) : Calls Tryz.prog 146 #[.slice a n cap] w0 (Ret w0 (.tuple #[.agg (BV (padV bs)), .bool true])) := by
  refine enter (args := [.slice a n cap]) Tryz.func146 rfl rfl ?_
  refine startw fun w hS => ?_
  refine rg ?_
  refine ala zr22 hS rfl rfl ?_
  intro b2 w hb2 hS
  refine asg rfl rfl rfl ?_
  refine wq_then ?_
  refine rg ?_
  refine ala zr22 hS rfl rfl ?_
  intro b4 w hb4 hS
  refine wq_then ?_
  refine wc_seq ?_
  refine rg ?_
  refine mv rfl rfl rfl ?_
  refine lens Tryz.underlying30 rfl rfl rfl ?_
  refine geq rfl rfl rfl rfl ?_
  refine wq_then ?_
  refine wc_if rfl (fun hc1 => ?_) (fun hc1 => ?_)
  · skip
    try simp only [SB] at hc1
    exfalso; omega
  · skip
    try simp only [SB] at hc1
    refine wc_skip ?_
    refine wq_then ?_
    refine rg ?_
    refine a_all Tryz.underlying22 ⟨_, sz5⟩ rfl rfl rfl ?_
    refine mv rfl rfl rfl ?_
    refine cpy (cs' := BV (ofl 16 bs)) (q := n) (bs := bs) 0 sl30 hS rfl rfl rfl rfl rfl (hc.st hS) (by first | rfl | omega | (simp; omega) | (simp; done)) (by first | rfl | (simp only [Nat.min_def]; split <;> omega)) (le_sz (BV_size _) (by omega)) (pad_put bs n hn.symm (by omega)) ?_
    intro w hS
    refine ian (n) (n) Tryz.underlying22 sz5 rfl rfl rfl rfl (by omega) (by omega) (by omega) ?_
    refine st 0 sz5 hS rfl rfl rfl rfl rfl rfl (by rw [BV_size]; omega) (BV_set _ _ (128 : UInt8)) ?_
    intro w hS
    refine wq_then ?_
    refine rg ?_
    refine la 0 ag22 hS rfl rfl rfl rfl (BV_size _) ?_
    refine sa 1 ag22 hS rfl rfl rfl (BV_one _) rfl (BV_size _) (BV_size _) ?_
    intro w hS
    refine asg rfl rfl rfl ?_
    refine wq_then ?_
    refine wc_ret ?_
    refine fin2 (v := .agg (BV ((ofl 16 bs).setIfInBounds n 128))) (u := .bool (true)) rfl ⟨_, rfl, lv_a ag22 (hS.get 1 rfl) (BV_size _)⟩ rfl ?_
    refine ⟨?_, hS.drop⟩
    rw [← hn]; rfl
end Go.Proofs.XS

/- walks -/
namespace Go.Proofs.XS
open Go Go.X Go.Proofs
set_option maxRecDepth 100000 in
theorem sp_table_Table_Star (t c : Nat) (key : V8 16) (w0 : World) (hT : TabAt w0 t c key) : Calls Tryz.prog 145 #[Ptr t 0] w0 (Ret w0 (.agg (BV (star key)))) := by
  refine enter (args := [Ptr t 0]) Tryz.func145 rfl rfl ?_
  refine startw fun w hS => ?_
  obtain ⟨⟨T, hT1⟩, E, hC⟩ := id hT
  refine rg ?_
  refine ala zr22 hS rfl rfl ?_
  intro b2 w hb2 hS
  refine wq_then ?_
  refine rg ?_
  refine mv rfl rfl rfl ?_
  refine cv cf174 hS rfl rfl rfl rfl rfl (sp_table_Table_right (t) (c) (key) _ (hT.st hS)) ?_
  intro w hS
  refine nilp rfl rfl rfl ?_
  refine fan (1) (1) Tryz.underlying139 rfl sz22 (by decide) rfl rfl rfl rfl (by omega) ?_
  refine lpd (u := .agg (BV (star key))) hT1 List.not_mem_nil ag22 hS rfl rfl rfl (le_sz (a := 1057) (cat_size (a := 1) (b := 1056) rfl (cat_size (a := 16) (b := 1040) (BV_size _) (cat_size (a := 16) (b := 1024) (BV_size _) (BV_size _)))) (by omega)) (cat_xr (a := 1) (o' := 0) rfl (by omega) (cat_xl (a := 16) (BV_size _) (by omega) (ext_all (BV_size _)))) rfl ?_
  refine sa 0 ag22 hS rfl rfl rfl (BV_one _) rfl (BV_size _) (BV_size _) ?_
  intro w hS
  refine wq_then ?_
  refine wc_ret ?_
  refine fin1 (v := .agg (BV (star key))) rfl ⟨_, rfl, lv_a ag22 (hS.get 0 rfl) (BV_size _)⟩ ?_
  exact ⟨rfl, hS.drop⟩
end Go.Proofs.XS
