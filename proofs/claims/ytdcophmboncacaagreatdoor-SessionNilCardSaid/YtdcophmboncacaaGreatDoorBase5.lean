/- Part 5 of the ground of this seat's proofs: rules of a calculus of walks, and what the functions of the lower layers compute; no conditions beyond those that each statement bears. -/
import Derived.Test.YtdcophmboncacaaGreatDoorBase4
import Derived.Test.YtdcophmboncacaaGreatDoorProg
set_option linter.unusedVariables false
set_option linter.unusedSimpArgs false
set_option linter.unnecessarySimpa false
/- walks -/
namespace Go.Proofs.XS
open Go Go.X Go.Proofs
set_option maxRecDepth 100000 in
theorem sp_hash_Rest (t c : Nat) (key : V8 16) (off : V8 16) (a : Option Addr) (n cap : Nat) (bs : List UInt8) (w0 : World) (hT : TabAt w0 t c key) (hn : bs.length = n) (hN : n ≤ 1000000) (hc : Cel w0 a (c8 bs)) (h16 : n < 16) : Calls Tryz.prog 176 #[Ptr t 0, .agg (BV off), .slice a n cap] w0 (Ret w0 (.agg (BV (restB key off bs)))) := by
  refine enter (args := [Ptr t 0, .agg (BV off), .slice a n cap]) Tryz.func176 rfl rfl ?_
  refine startw fun w hS => ?_
  obtain ⟨⟨T, hT1⟩, E, hC⟩ := id hT
  refine rg ?_
  refine bxa hS rfl rfl rfl ?_
  intro b4 w hb4 hS
  refine ala zr22 hS rfl rfl ?_
  intro b6 w hb6 hS
  refine wq_then ?_
  refine rg ?_
  refine mv rfl rfl rfl ?_
  refine cv cf146 hS rfl rfl rfl rfl rfl (sp_block_Pad (a) (n) (cap) (bs) _ (by first | rfl | omega | (simp; omega) | (simp; done)) (by omega) (hc.st hS) (by omega)) ?_
  intro w hS
  refine mv rfl rfl rfl ?_
  refine ext rfl rfl rfl rfl ?_
  refine ext rfl rfl rfl rfl ?_
  refine ala zr22 hS rfl rfl ?_
  intro b7 w hb7 hS
  refine sa 0 ag22 hS rfl rfl rfl (BV_one _) rfl (BV_size _) (BV_size _) ?_
  intro w hS
  refine asg rfl rfl rfl ?_
  refine wq_then ?_
  refine wc_seq ?_
  refine rg ?_
  refine mv rfl rfl rfl ?_
  refine notb rfl rfl rfl ?_
  refine mv rfl rfl rfl ?_
  refine mv rfl rfl rfl ?_
  refine lens Tryz.underlying30 rfl rfl rfl ?_
  refine eqi rfl rfl rfl rfl ?_
  refine pk_f rfl rfl rfl rfl ?_
  refine wq_then ?_
  refine wc_if rfl (fun hc1 => ?_) (fun hc1 => ?_)
  · skip
    try simp only [SB] at hc1
    have hz : bs.length = 0 := by omega
    refine rg ?_
    refine bd (cs := BV (Vector.replicate 16 0)) rfl rfl rfl (by kernel_rfl) ?_
    refine sa 1 ag22 hS rfl rfl rfl (BV_one _) rfl (BV_size _) (BV_size _) ?_
    intro w hS
    refine wq_then ?_
    refine wc_ret ?_
    refine q_then_ret ?_
    refine fin1 (v := .agg (BV (Vector.replicate 16 0))) rfl ⟨_, rfl, lv_a ag22 (hS.get 1 rfl) (BV_size _)⟩ ?_
    refine ⟨?_, hS.drop⟩
    simp only [restB]; rw [if_pos hz]
  · skip
    try simp only [SB] at hc1
    have hz : ¬ bs.length = 0 := by omega
    refine wc_skip ?_
    refine wq_then ?_
    refine rd mo 9 (fun w => St w0 [] [(b7, .cells (BV (padV bs)) 22), (b6, .cells (BV (Vector.replicate 16 0)) 22), (b4, .cells (BV off) 22)] w) ?_
    have hS := hS.drew
    refine dq 0 rfl (by kernel_rfl) (by kernel_rfl) (by kernel_rfl) rfl rfl (fun w hS => mv rfl rfl rfl ⟨rfl, rfl⟩) hS ?_
    refine dq 2 rfl (by kernel_rfl) (by kernel_rfl) (by kernel_rfl) rfl rfl (fun w hS => la 0 ag22 hS rfl rfl rfl rfl (BV_size _) ⟨rfl, rfl⟩) hS ?_
    refine dq 3 rfl (by kernel_rfl) (by kernel_rfl) (by kernel_rfl) rfl rfl (fun w hS => la 2 ag22 hS rfl rfl rfl rfl (BV_size _) ⟨rfl, rfl⟩) hS ?_
    refine dq 4 rfl (by kernel_rfl) (by kernel_rfl) (by kernel_rfl) rfl rfl (fun w hS => mv rfl rfl rfl ⟨rfl, rfl⟩) hS ?_
    refine dl 1 rfl (by kernel_rfl) ?_
    refine cv cf144 hS rfl rfl rfl rfl rfl (sp_table_Table_Cipher (t) (c) (key) _ (hT.st hS)) ?_
    intro w hS
    refine ⟨fun _ => hS, ?_⟩
    refine dl 5 rfl (by kernel_rfl) ?_
    refine cv cf145 hS rfl rfl rfl rfl rfl (sp_table_Table_Star (t) (c) (key) _ (hT.st hS)) ?_
    intro w hS
    refine ⟨fun _ => hS, ?_⟩
    refine dl 6 rfl (by kernel_rfl) ?_
    refine cv cf143 hS rfl rfl rfl rfl rfl (sp_block_Xor (off) ((star key)) _) ?_
    intro w hS
    refine ⟨fun _ => hS, ?_⟩
    refine dl 7 rfl (by kernel_rfl) ?_
    refine cv cf143 hS rfl rfl rfl rfl rfl (sp_block_Xor ((padV bs)) ((xorV off (star key))) _) ?_
    intro w hS
    refine ⟨fun _ => hS, ?_⟩
    refine dl 8 rfl (by kernel_rfl) ?_
    refine cv cf71 hS rfl rfl rfl rfl rfl (sp_fast_Cipher_Encrypt (c) (_) (key) ((xorV (padV bs) (xorV off (star key)))) _ (hS.old hC List.not_mem_nil)) ?_
    intro w hS
    refine ⟨fun _ => hS, ?_⟩
    refine dl 9 rfl (by kernel_rfl) ?_
    refine sa 1 ag22 hS rfl rfl rfl (BV_one _) rfl (BV_size _) (BV_size _) ?_
    intro w hS
    refine ⟨fun h => (by cases h), ?_⟩
    refine de (by kernel_rfl) ?_
    refine wq_then ?_
    refine wc_ret ?_
    refine fin1 (v := .agg (BV (enc key (xorV (padV bs) (xorV off (star key)))))) rfl ⟨_, rfl, lv_a ag22 (hS.get 1 rfl) (BV_size _)⟩ ?_
    refine ⟨?_, hS.drop⟩
    simp only [restB]; rw [if_neg hz]
end Go.Proofs.XS

/- walks -/
namespace Go.Proofs.XS
open Go Go.X Go.Proofs
set_option maxRecDepth 100000 in
theorem sp_hash_Sum (t c : Nat) (key : V8 16) (a : Option Addr) (n cap : Nat) (bs : List UInt8) (w0 : World) (hT : TabAt w0 t c key) (hn : bs.length = n) (hN : n ≤ 1000000) (hc : Cel w0 a (c8 bs)) (hcap : n ≤ cap) (hG : Gl 1 w0) : Calls Tryz.prog 148 #[Ptr t 0, .slice a n cap] w0 (Ret w0 (.agg (BV (hashV key bs)))) := by
  refine enterM (args := [Ptr t 0, .slice a n cap]) Tryz.func148 rfl rfl ?_
  refine startw fun w hS => ?_
  obtain ⟨⟨T, hT1⟩, E, hC⟩ := id hT
  refine rg ?_
  refine bx1 hS rfl rfl rfl rfl ?_
  intro b2 w hb2 hS
  refine ala zr22 hS rfl rfl ?_
  intro b4 w hb4 hS
  refine wq_then ?_
  refine rg ?_
  refine ala zr262 hS rfl rfl ?_
  intro b5 w hb5 hS
  refine wq_then ?_
  refine rg ?_
  refine al1 zr3 hS rfl rfl rfl ?_
  intro b6 w hb6 hS
  refine st 0 sz3 hS rfl rfl rfl rfl rfl rfl Nat.zero_lt_one rfl ?_
  intro w hS
  refine wq_then ?_
  refine wc_seq ?_
  refine rg ?_
  refine mv rfl rfl rfl ?_
  refine cs cf141 hS rfl rfl rfl rfl rfl (sp_block_All (a) (n) (cap) _) ?_
  rintro _ _ w ⟨b10, rfl, rfl⟩ hS
  refine wq_then ?_
  refine wc_block ?_
  refine wc_range2 (m := 0) (fun k => I ((k + 1 : Nat) : Int)) (fun k => .agg (BV (blk bs k))) (n / 16) (fun W => W.heap[b10]? = some (.cells #[.slice a n cap] 30) ∧ Cel W a (c8 bs)) (fun k L => L = [(b10, .cells (#[(.slice a n cap)]) 30), (b6, .cells (#[I (((k * 16 : Nat) : Int))]) 3), (b5, .cells (BV ((sumL key bs k).1) ++ BV ((sumL key bs k).2)) 262), (b4, .cells (BV (Vector.replicate 16 0)) 22), (b2, .cells (#[Ptr t 0]) 77)]) rfl cf172 rfl rfl hS rfl ?_ ?_ ?_ ?_
  · exact fun lp J W hJ hY h0 => sp_block_All_1 0 lp b10 _ n cap a bs J hn hN hcap hJ hY W h0
  · exact fun k L' W hL hS => by subst hL; exact ⟨hS.get 0 rfl, hc.st hS⟩
  · rintro k lp D r _ w hr hp hk rfl hS
    refine rgi ?_
    refine wi rfl (asg rfl rfl rfl ?_)
    refine wqi_then ?_
    refine wci_region ?_
    refine wi rfl (ala zr22 hS rfl rfl ?_)
    intro b8 w hb8 hS
    refine wi rfl (sa 0 ag22 hS rfl rfl rfl (BV_one _) rfl (BV_size _) (BV_size _) ?_)
    intro w hS
    refine begin_q 1 hS rfl hr (fun w hS => wk_ci ?_)
    refine wci_block ?_
    refine rgi ?_
    refine wi rfl (la 5 ag262 hS rfl rfl rfl rfl (cat_size (a := 16) (b := 16) (BV_size _) (BV_size _)) ?_)
    refine wi rfl (lo 7 sc77 hS rfl rfl rfl rfl rfl ?_)
    refine wi rfl (mv rfl rfl rfl ?_)
    refine wi rfl (la 0 ag22 hS rfl rfl rfl rfl (BV_size _) ?_)
    refine wi rfl (cv cf175 hS rfl rfl rfl rfl rfl (sp_hash_state_add (t) (c) (key) (((sumL key bs k).1)) (((sumL key bs k).2)) ((blk bs k)) ((k + 1)) _ _ (by omega) (hT.st hS) (by omega) (by omega) (hG.st hS)) ?_)
    intro w hS
    refine wi rfl (sa 5 ag262 hS rfl rfl rfl (cat_one (BV_one _) (BV_one _)) rfl (cat_size (a := 16) (b := 16) (BV_size _) (BV_size _)) (cat_size (a := 16) (b := 16) (BV_size _) (BV_size _)) ?_)
    intro w hS
    refine wqi_then ?_
    refine wci_region ?_
    refine wi rfl (mv rfl rfl rfl ?_)
    refine wi rfl (muli (by omega) (by omega) rfl rfl rfl rfl ?_)
    refine wi rfl (st 4 sz3 hS rfl rfl rfl rfl rfl rfl Nat.zero_lt_one rfl ?_)
    intro w hS
    refine q_block_norm ?_
    refine end_q 1 hS rfl hr hp (fun w hS => ?_)
    exact ⟨rfl, _, rfl, hS.tl⟩
  · rintro D _ w rfl hS
    refine q_block_norm ?_
    refine wq_then ?_
    refine rd mo 10 (fun w => St w0 [] [(D, .deferred (some [])), (b10, .cells (#[(.slice a n cap)]) 30), (b6, .cells (#[I (((n / 16 * 16 : Nat) : Int))]) 3), (b5, .cells (BV ((sumL key bs (n / 16)).1) ++ BV ((sumL key bs (n / 16)).2)) 262), (b4, .cells (BV (Vector.replicate 16 0)) 22), (b2, .cells (#[Ptr t 0]) 77)] w) ?_
    have hS := hS.drew
    refine dq 0 rfl (by kernel_rfl) (by kernel_rfl) (by kernel_rfl) rfl rfl (fun w hS => fan (0) (0) Tryz.underlying262 rfl sz22 (by decide) rfl rfl rfl rfl (by omega) ⟨rfl, rfl⟩) hS ?_
    refine dq 1 rfl (by kernel_rfl) (by kernel_rfl) (by kernel_rfl) rfl rfl (fun w hS => lp (u := .agg (BV ((sumL key bs (n / 16)).1))) 3 ag22 hS rfl rfl rfl rfl (le_sz (a := 32) (cat_size (a := 16) (b := 16) (BV_size _) (BV_size _)) (by omega)) (cat_xl (a := 16) (BV_size _) (by omega) (ext_all (BV_size _))) rfl ⟨rfl, rfl⟩) hS ?_
    refine dq 2 rfl (by kernel_rfl) (by kernel_rfl) (by kernel_rfl) rfl rfl (fun w hS => lo 5 sc77 hS rfl rfl rfl rfl rfl ⟨rfl, rfl⟩) hS ?_
    refine dq 3 rfl (by kernel_rfl) (by kernel_rfl) (by kernel_rfl) rfl rfl (fun w hS => fan (16) (16) Tryz.underlying262 rfl sz22 (by decide) rfl rfl rfl rfl (by omega) ⟨rfl, rfl⟩) hS ?_
    refine dq 4 rfl (by kernel_rfl) (by kernel_rfl) (by kernel_rfl) rfl rfl (fun w hS => lp (u := .agg (BV ((sumL key bs (n / 16)).2))) 3 ag22 hS rfl rfl rfl rfl (le_sz (a := 32) (cat_size (a := 16) (b := 16) (BV_size _) (BV_size _)) (by omega)) (cat_xr (a := 16) (o' := 0) (BV_size _) (by omega) (ext_all (BV_size _))) rfl ⟨rfl, rfl⟩) hS ?_
    refine dq 5 rfl (by kernel_rfl) (by kernel_rfl) (by kernel_rfl) rfl rfl (fun w hS => mv rfl rfl rfl ⟨rfl, rfl⟩) hS ?_
    refine dq 6 rfl (by kernel_rfl) (by kernel_rfl) (by kernel_rfl) rfl rfl (fun w hS => lo 2 sc3 hS rfl rfl rfl rfl rfl ⟨rfl, rfl⟩) hS ?_
    refine dq 7 rfl (by kernel_rfl) (by kernel_rfl) (by kernel_rfl) rfl rfl (fun w hS => s_l (n / 16 * 16) Tryz.underlying30 sz5 rfl rfl rfl rfl (by omega) (by omega) ⟨rfl, rfl⟩) hS ?_
    refine dl 8 rfl (by kernel_rfl) ?_
    refine cv cf176 hS rfl rfl rfl rfl rfl (sp_hash_Rest (t) (c) (key) (((sumL key bs (n / 16)).2)) ((sla a (n / 16 * 16) cap)) ((n - (n / 16 * 16))) ((cap - (n / 16 * 16))) (((bs).drop (n / 16 * 16))) _ (hT.st hS) (by first | rfl | omega | (simp; omega) | (simp; done)) (by omega) ((hc.st hS).drop8 (lo := n / 16 * 16) (cap := cap) (by first | omega | (simp; omega) | simp)) (by omega)) ?_
    intro w hS
    refine ⟨fun _ => hS, ?_⟩
    refine dl 9 rfl (by kernel_rfl) ?_
    refine cv cf143 hS rfl rfl rfl rfl rfl (sp_block_Xor (((sumL key bs (n / 16)).1)) ((restB key ((sumL key bs (n / 16)).2) ((bs).drop (n / 16 * 16)))) _) ?_
    intro w hS
    refine ⟨fun _ => hS, ?_⟩
    refine dl 10 rfl (by kernel_rfl) ?_
    refine sa 4 ag22 hS rfl rfl rfl (BV_one _) rfl (BV_size _) (BV_size _) ?_
    intro w hS
    refine ⟨fun h => (by cases h), ?_⟩
    refine de (by kernel_rfl) ?_
    refine wq_then ?_
    refine wc_ret ?_
    refine finM1 (v := .agg (BV (xorV ((sumL key bs (n / 16)).1) (restB key ((sumL key bs (n / 16)).2) ((bs).drop (n / 16 * 16)))))) 0 hS rfl rfl rfl (fun w hS => ⟨_, rfl, lv_a ag22 (hS.get 4 rfl) (BV_size _)⟩) (fun w hS => ?_)
    refine ⟨?_, hS.drop⟩
    simp only [hashV, hn]
end Go.Proofs.XS

/- walks -/
namespace Go.Proofs.XS
open Go Go.X Go.Proofs
set_option maxRecDepth 100000 in
theorem sp_seal_Tag (t c : Nat) (key : V8 16) (ck off : V8 16) (a : Option Addr) (n cap : Nat) (bs : List UInt8) (w0 : World) (hT : TabAt w0 t c key) (hn : bs.length = n) (hN : n ≤ 1000000) (hc : Cel w0 a (c8 bs)) (hcap : n ≤ cap) (hG : Gl 1 w0) : Calls Tryz.prog 117 #[Ptr t 0, .agg (BV ck), .agg (BV off), .slice a n cap] w0 (Ret w0 (.agg (BV (tagV key ck off bs)))) := by
  refine enter (args := [Ptr t 0, .agg (BV ck), .agg (BV off), .slice a n cap]) Tryz.func117 rfl rfl ?_
  refine startw fun w hS => ?_
  obtain ⟨⟨T, hT1⟩, E, hC⟩ := id hT
  refine rg ?_
  refine bxa hS rfl rfl rfl ?_
  intro b5 w hb5 hS
  refine bxa hS rfl rfl rfl ?_
  intro b6 w hb6 hS
  refine ala zr22 hS rfl rfl ?_
  intro b8 w hb8 hS
  refine wq_then ?_
  refine sqj (fun l w => ∃ (b9 : Nat), l = [(0, Ptr t 0), (3, .slice a n cap), (8, Ptr b8 0), (9, Ptr b9 0)] ∧ St w0 [] [(b9, .cells (BV (xorV ck (xorV off (lastL key 0)))) 22), (b8, .cells (BV (Vector.replicate 16 0)) 22), (b6, .cells (BV off) 22), (b5, .cells (BV ck) 22)] w) ?_ ?_
  · skip
    refine wc_draw mo 7 (fun w => St w0 [] [(b8, .cells (BV (Vector.replicate 16 0)) 22), (b6, .cells (BV off) 22), (b5, .cells (BV ck) 22)] w) ?_
    have hS := hS.drew
    refine dq 0 rfl (by kernel_rfl) (by kernel_rfl) (by kernel_rfl) rfl rfl (fun w hS => la 2 ag22 hS rfl rfl rfl rfl (BV_size _) ⟨rfl, rfl⟩) hS ?_
    refine dq 1 rfl (by kernel_rfl) (by kernel_rfl) (by kernel_rfl) rfl rfl (fun w hS => la 1 ag22 hS rfl rfl rfl rfl (BV_size _) ⟨rfl, rfl⟩) hS ?_
    refine dq 2 rfl (by kernel_rfl) (by kernel_rfl) (by kernel_rfl) rfl rfl (fun w hS => mv rfl rfl rfl ⟨rfl, rfl⟩) hS ?_
    refine dl2 3 6 rfl rfl (by kernel_rfl) ?_ ?_
    · skip
      refine cv cf147 hS rfl rfl rfl rfl rfl (sp_table_Table_Dollar (t) (c) (key) _ (hT.st hS)) ?_
      intro w hS
      refine ⟨fun _ => hS, ?_⟩
      refine dl2 4 6 rfl rfl (by kernel_rfl) ?_ ?_
      · skip
        refine cv cf143 hS rfl rfl rfl rfl rfl (sp_block_Xor (off) ((lastL key 0)) _) ?_
        intro w hS
        refine ⟨fun _ => hS, ?_⟩
        refine dl2 5 6 rfl rfl (by kernel_rfl) ?_ ?_
        · skip
          refine cv cf143 hS rfl rfl rfl rfl rfl (sp_block_Xor (ck) ((xorV off (lastL key 0))) _) ?_
          intro w hS
          refine ⟨fun _ => hS, ?_⟩
          refine dl 6 rfl (by kernel_rfl) ?_
          refine ala zr22 hS rfl rfl ?_
          intro b9 w hb9 hS
          refine ⟨fun _ => hS.tl, ?_⟩
          refine dl 7 rfl (by kernel_rfl) ?_
          refine sa 0 ag22 hS rfl rfl rfl (BV_one _) rfl (BV_size _) (BV_size _) ?_
          intro w hS
          refine ⟨fun h => (by cases h), ?_⟩
          refine de (by kernel_rfl) ?_
          exact mmq ⟨b9, rfl, hS⟩ ⟨rfl, rfl, rfl, rfl, trivial⟩
        · skip
          refine ala zr22 hS rfl rfl ?_
          intro b9 w hb9 hS
          refine ⟨fun _ => hS.tl, ?_⟩
          refine dl 5 rfl (by kernel_rfl) ?_
          refine cv cf143 hS rfl rfl rfl rfl rfl (sp_block_Xor (ck) ((xorV off (lastL key 0))) _) ?_
          intro w hS
          refine ⟨fun _ => hS.tl, ?_⟩
          refine dl 7 rfl (by kernel_rfl) ?_
          refine sa 0 ag22 hS rfl rfl rfl (BV_one _) rfl (BV_size _) (BV_size _) ?_
          intro w hS
          refine ⟨fun h => (by cases h), ?_⟩
          refine de (by kernel_rfl) ?_
          exact mmq ⟨b9, rfl, hS⟩ ⟨rfl, rfl, rfl, rfl, trivial⟩
      · skip
        refine ala zr22 hS rfl rfl ?_
        intro b9 w hb9 hS
        refine ⟨fun _ => hS.tl, ?_⟩
        refine dl 4 rfl (by kernel_rfl) ?_
        refine cv cf143 hS rfl rfl rfl rfl rfl (sp_block_Xor (off) ((lastL key 0)) _) ?_
        intro w hS
        refine ⟨fun _ => hS.tl, ?_⟩
        refine dl 5 rfl (by kernel_rfl) ?_
        refine cv cf143 hS rfl rfl rfl rfl rfl (sp_block_Xor (ck) ((xorV off (lastL key 0))) _) ?_
        intro w hS
        refine ⟨fun _ => hS.tl, ?_⟩
        refine dl 7 rfl (by kernel_rfl) ?_
        refine sa 0 ag22 hS rfl rfl rfl (BV_one _) rfl (BV_size _) (BV_size _) ?_
        intro w hS
        refine ⟨fun h => (by cases h), ?_⟩
        refine de (by kernel_rfl) ?_
        exact mmq ⟨b9, rfl, hS⟩ ⟨rfl, rfl, rfl, rfl, trivial⟩
    · skip
      refine ala zr22 hS rfl rfl ?_
      intro b9 w hb9 hS
      refine ⟨fun _ => hS.tl, ?_⟩
      refine dl 3 rfl (by kernel_rfl) ?_
      refine cv cf147 hS rfl rfl rfl rfl rfl (sp_table_Table_Dollar (t) (c) (key) _ (hT.st hS)) ?_
      intro w hS
      refine ⟨fun _ => hS.tl, ?_⟩
      refine dl 4 rfl (by kernel_rfl) ?_
      refine cv cf143 hS rfl rfl rfl rfl rfl (sp_block_Xor (off) ((lastL key 0)) _) ?_
      intro w hS
      refine ⟨fun _ => hS.tl, ?_⟩
      refine dl 5 rfl (by kernel_rfl) ?_
      refine cv cf143 hS rfl rfl rfl rfl rfl (sp_block_Xor (ck) ((xorV off (lastL key 0))) _) ?_
      intro w hS
      refine ⟨fun _ => hS.tl, ?_⟩
      refine dl 7 rfl (by kernel_rfl) ?_
      refine sa 0 ag22 hS rfl rfl rfl (BV_one _) rfl (BV_size _) (BV_size _) ?_
      intro w hS
      refine ⟨fun h => (by cases h), ?_⟩
      refine de (by kernel_rfl) ?_
      exact mmq ⟨b9, rfl, hS⟩ ⟨rfl, rfl, rfl, rfl, trivial⟩
  · rintro _ w ⟨b9, rfl, hS⟩
    refine rd mo 8 (fun w => St w0 [] [(b9, .cells (BV (xorV ck (xorV off (lastL key 0)))) 22), (b8, .cells (BV (Vector.replicate 16 0)) 22), (b6, .cells (BV off) 22), (b5, .cells (BV ck) 22)] w) ?_
    have hS := hS.drew
    refine dq 0 rfl (by kernel_rfl) (by kernel_rfl) (by kernel_rfl) rfl rfl (fun w hS => mv rfl rfl rfl ⟨rfl, rfl⟩) hS ?_
    refine dq 2 rfl (by kernel_rfl) (by kernel_rfl) (by kernel_rfl) rfl rfl (fun w hS => la 0 ag22 hS rfl rfl rfl rfl (BV_size _) ⟨rfl, rfl⟩) hS ?_
    refine dq 4 rfl (by kernel_rfl) (by kernel_rfl) (by kernel_rfl) rfl rfl (fun w hS => mv rfl rfl rfl ⟨rfl, rfl⟩) hS ?_
    refine dq 5 rfl (by kernel_rfl) (by kernel_rfl) (by kernel_rfl) rfl rfl (fun w hS => mv rfl rfl rfl ⟨rfl, rfl⟩) hS ?_
    refine dl 1 rfl (by kernel_rfl) ?_
    refine cv cf144 hS rfl rfl rfl rfl rfl (sp_table_Table_Cipher (t) (c) (key) _ (hT.st hS)) ?_
    intro w hS
    refine ⟨fun _ => hS, ?_⟩
    refine dl 3 rfl (by kernel_rfl) ?_
    refine cv cf71 hS rfl rfl rfl rfl rfl (sp_fast_Cipher_Encrypt (c) (_) (key) ((xorV ck (xorV off (lastL key 0)))) _ (hS.old hC List.not_mem_nil)) ?_
    intro w hS
    refine ⟨fun _ => hS, ?_⟩
    refine dl 6 rfl (by kernel_rfl) ?_
    refine cv cf148 hS rfl rfl rfl rfl rfl (sp_hash_Sum (t) (c) (key) (a) (n) (cap) (bs) _ (hT.st hS) (by first | rfl | omega | (simp; omega) | (simp; done)) (by omega) (hc.st hS) (by omega) (hG.st hS)) ?_
    intro w hS
    refine ⟨fun _ => hS, ?_⟩
    refine dl 7 rfl (by kernel_rfl) ?_
    refine cv cf143 hS rfl rfl rfl rfl rfl (sp_block_Xor ((enc key (xorV ck (xorV off (lastL key 0))))) ((hashV key bs)) _) ?_
    intro w hS
    refine ⟨fun _ => hS, ?_⟩
    refine dl 8 rfl (by kernel_rfl) ?_
    refine sa 1 ag22 hS rfl rfl rfl (BV_one _) rfl (BV_size _) (BV_size _) ?_
    intro w hS
    refine ⟨fun h => (by cases h), ?_⟩
    refine de (by kernel_rfl) ?_
    refine wq_then ?_
    refine wc_ret ?_
    refine fin1 (v := .agg (BV (xorV (enc key (xorV ck (xorV off (lastL key 0)))) (hashV key bs)))) rfl ⟨_, rfl, lv_a ag22 (hS.get 1 rfl) (BV_size _)⟩ ?_
    exact ⟨rfl, hS.drop⟩
end Go.Proofs.XS

/- walks -/
namespace Go.Proofs.XS
open Go Go.X Go.Proofs
set_option maxRecDepth 100000 in
theorem sp_block_Shift (b : V8 24) (n : Nat) (n_ : Int) (w0 : World) (hn_ : n_ = (n : Int)) (hn : n < 64) : Calls Tryz.prog 168 #[.agg (BV b), I n_] w0 (Ret w0 (.agg (BV (shiftV b n)))) := by
  subst hn_
  refine enter (args := [.agg (BV b), I (n : Int)]) Tryz.func168 rfl rfl ?_
  refine startw fun w hS => ?_
  refine rg ?_
  refine bxa hS rfl rfl rfl ?_
  intro b2 w hb2 hS
  refine ala zr22 hS rfl rfl ?_
  intro b4 w hb4 hS
  refine wq_then ?_
  refine rg ?_
  refine mv rfl rfl rfl ?_
  refine maxin (n) (by omega) rfl rfl rfl rfl ?_
  refine minin (n) (by omega) rfl rfl rfl rfl ?_
  refine asg rfl rfl rfl ?_
  refine wq_then ?_
  refine rg ?_
  refine ala zr22 hS rfl rfl ?_
  intro b5 w hb5 hS
  refine wq_then ?_
  refine wc_seq ?_
  refine rg ?_
  refine mv rfl rfl rfl ?_
  refine wq_then ?_
  refine wc_block ?_
  refine wc_loop (σ := Nat) (fun k => [(1, I (((n : Nat) : Int))), (2, Ptr b2 0), (4, Ptr b4 0), (5, Ptr b5 0), (12, I ((k : Int)))])
    (fun k w => (k ≤ 16) ∧ St w0 [] [(b5, .cells (BV (fill8 16 (shiftf b n) (Vector.replicate 16 0) k)) 22), (b4, .cells (BV (Vector.replicate 16 0)) 22), (b2, .cells (BV b) 255)] w) (fun k => 16 - k) 0 ⟨rfl, rfl, rfl, rfl, rfl, trivial⟩ ⟨by omega, (by simp only [Nat.zero_mul, Nat.add_zero, fill8_0, fill32_0]; exact hS)⟩ ?_
  rintro k w ⟨hk, hS⟩
  refine rg ?_
  refine lss rfl rfl rfl rfl ?_
  refine wq_then ?_
  refine wc_seq ?_
  refine wc_if rfl (fun hc1 => ?_) (fun hc1 => ?_)
  · skip
    try simp only [SB] at hc1
    refine wc_skip ?_
    refine wq_then ?_
    refine wc_seq ?_
    refine wc_block ?_
    refine rg ?_
    refine mv rfl rfl rfl ?_
    refine asg rfl rfl rfl ?_
    refine wq_then ?_
    refine rg ?_
    refine mv rfl rfl rfl ?_
    refine mv rfl rfl rfl ?_
    refine quoi (by omega) (by omega) (by omega) rfl rfl rfl rfl ?_
    refine addi (by omega) (by omega) rfl rfl rfl rfl ?_
    refine mv rfl rfl rfl ?_
    refine remi (by omega) (by omega) rfl rfl rfl rfl ?_
    refine cvu64 Tryz.underlying171 ⟨_, Tryz.underlying3⟩ rfl rfl rfl ?_
    refine asg rfl rfl rfl ?_
    refine asg rfl rfl rfl ?_
    refine wq_then ?_
    refine rg ?_
    refine mv rfl rfl rfl ?_
    refine mv rfl rfl rfl ?_
    refine ian (k + (n / 8)) ((k + (n / 8))) Tryz.underlying255 sz5 rfl rfl rfl rfl (by omega) (by omega) (by omega) ?_
    refine lo 2 sc5 hS rfl rfl rfl rfl (BV_get _ (k + (n / 8)) (by omega)) ?_
    refine mv rfl rfl rfl ?_
    refine shln8 ((toU64 (((n : Nat) : Int) % 8)).toNat) (by omega) rfl rfl rfl rfl ?_
    refine ian (k) (k) Tryz.underlying22 sz5 rfl rfl rfl rfl (by omega) (by omega) (by omega) ?_
    refine st 0 sz5 hS rfl rfl rfl rfl rfl rfl (by rw [BV_size]; omega) (BV_set _ _ (shl8 (gv b (k + (n / 8))) ((toU64 (((n : Nat) : Int) % 8)).toNat) : UInt8)) ?_
    intro w hS
    refine wq_then ?_
    refine rg ?_
    refine mv rfl rfl rfl ?_
    refine gtr rfl rfl rfl rfl ?_
    refine wq_then ?_
    refine wc_if rfl (fun hc2 => ?_) (fun hc2 => ?_)
    · skip
      try simp only [SB] at hc2
      have hz : 0 < n % 8 := by have e := toU64_nat (n % 8) (by omega); have hc := hc2; rw [show ((n : Int) % 8) = ((n % 8 : Nat) : Int) from by omega] at hc; omega
      refine wc_draw mo 11 (fun w => St w0 [] [(b5, .cells (BV ((fill8 16 (shiftf b n) (Vector.replicate 16 0) k).setIfInBounds k (shl8 (gv b (k + (n / 8))) ((toU64 (((n : Nat) : Int) % 8)).toNat)))) 22), (b4, .cells (BV (Vector.replicate 16 0)) 22), (b2, .cells (BV b) 255)] w) ?_
      have hS := hS.drew
      refine dq 0 rfl (by kernel_rfl) (by kernel_rfl) (by kernel_rfl) rfl rfl (fun w hS => mv rfl rfl rfl ⟨rfl, rfl⟩) hS ?_
      refine dq 1 rfl (by kernel_rfl) (by kernel_rfl) (by kernel_rfl) rfl rfl (fun w hS => ian (k) (k) Tryz.underlying22 sz5 rfl rfl rfl rfl (by omega) (by omega) (by omega) ⟨rfl, rfl⟩) hS ?_
      refine dq 2 rfl (by kernel_rfl) (by kernel_rfl) (by kernel_rfl) rfl rfl (fun w hS => lo 0 sc5 hS rfl rfl rfl rfl (BV_get _ k (by omega)) ⟨rfl, rfl⟩) hS ?_
      refine dq 3 rfl (by kernel_rfl) (by kernel_rfl) (by kernel_rfl) rfl rfl (fun w hS => mv rfl rfl rfl ⟨rfl, rfl⟩) hS ?_
      refine dq 4 rfl (by kernel_rfl) (by kernel_rfl) (by kernel_rfl) rfl rfl (fun w hS => addi (by omega) (by omega) rfl rfl rfl rfl ⟨rfl, rfl⟩) hS ?_
      refine dq 5 rfl (by kernel_rfl) (by kernel_rfl) (by kernel_rfl) rfl rfl (fun w hS => ian ((k + (n / 8)) + 1) (((k + (n / 8)) + 1)) Tryz.underlying255 sz5 rfl rfl rfl rfl (by omega) (by omega) (by omega) ⟨rfl, rfl⟩) hS ?_
      refine dq 6 rfl (by kernel_rfl) (by kernel_rfl) (by kernel_rfl) rfl rfl (fun w hS => lo 2 sc5 hS rfl rfl rfl rfl (BV_get _ ((k + (n / 8)) + 1) (by omega)) ⟨rfl, rfl⟩) hS ?_
      refine dq 7 rfl (by kernel_rfl) (by kernel_rfl) (by kernel_rfl) rfl rfl (fun w hS => mv rfl rfl rfl ⟨rfl, rfl⟩) hS ?_
      refine dq 8 rfl (by kernel_rfl) (by kernel_rfl) (by kernel_rfl) rfl rfl (fun w hS => sub64 (p := (8 : UInt64)) rfl rfl rfl rfl ⟨rfl, rfl⟩) hS ?_
      refine dq 9 rfl (by kernel_rfl) (by kernel_rfl) (by kernel_rfl) rfl rfl (fun w hS => shrn8 ((8 - (toU64 (((n : Nat) : Int) % 8))).toNat) (by omega) rfl rfl rfl rfl ⟨rfl, rfl⟩) hS ?_
      refine dq 10 rfl (by kernel_rfl) (by kernel_rfl) (by kernel_rfl) rfl rfl (fun w hS => or8 rfl rfl rfl rfl ⟨rfl, rfl⟩) hS ?_
      refine dl 11 rfl (by kernel_rfl) ?_
      refine ian (k) (k) Tryz.underlying22 sz5 rfl rfl rfl rfl (by omega) (by omega) (by omega) ?_
      refine ⟨fun h => (by cases h), ?_⟩
      refine dl 12 rfl (by kernel_rfl) ?_
      refine st (cs' := BV (fill8 16 (shiftf b n) (Vector.replicate 16 0) (k + 1))) 0 sz5 hS rfl rfl rfl rfl rfl rfl (by rw [BV_size]; omega) (by rw [BV_set]; exact congrArg BV (sh_t hz (by omega))) ?_
      intro w hS
      refine ⟨fun h => (by cases h), ?_⟩
      refine de (by kernel_rfl) ?_
      refine q_block_norm ?_
      refine wq_then ?_
      refine wc_region ?_
      refine addi (by omega) (by omega) rfl rfl rfl rfl ?_
      refine mv rfl rfl rfl ?_
      refine again_q (k + 1) ⟨rfl, rfl, rfl, rfl, lkI rfl (by first | omega | rfl), trivial⟩ ⟨by omega, hS⟩ (by omega)
    · skip
      try simp only [SB] at hc2
      have hz : ¬ 0 < n % 8 := by have e := toU64_nat (n % 8) (by omega); have hc := hc2; rw [show ((n : Int) % 8) = ((n % 8 : Nat) : Int) from by omega] at hc; omega
      have hS := sh_end hS hz
      refine wc_skip ?_
      refine q_block_norm ?_
      refine wq_then ?_
      refine wc_region ?_
      refine addi (by omega) (by omega) rfl rfl rfl rfl ?_
      refine mv rfl rfl rfl ?_
      refine again_q (k + 1) ⟨rfl, rfl, rfl, rfl, lkI rfl (by first | omega | rfl), trivial⟩ ⟨by omega, hS⟩ (by omega)
  · skip
    try simp only [SB] at hc1
    refine wc_exit ?_
    refine q_then_exit ?_
    refine q_then_exit ?_
    refine q_block_hit ?_
    refine wq_then ?_
    refine rg ?_
    refine la 0 ag22 hS rfl rfl rfl rfl (BV_size _) ?_
    refine sa 1 ag22 hS rfl rfl rfl (BV_one _) rfl (BV_size _) (BV_size _) ?_
    intro w hS
    refine wq_then ?_
    refine wc_ret ?_
    refine fin1 (v := .agg (BV (fill8 16 (shiftf b n) (Vector.replicate 16 0) k))) rfl ⟨_, rfl, lv_a ag22 (hS.get 1 rfl) (BV_size _)⟩ ?_
    refine ⟨?_, hS.drop⟩
    have hk4 : k = 16 := by omega
    subst hk4; rw [fill8_n]; rfl
end Go.Proofs.XS

/- walks -/
namespace Go.Proofs.XS
open Go Go.X Go.Proofs
set_option maxRecDepth 100000 in
theorem sp_offset_Bottom (nonce : V8 12) (w0 : World) : Calls Tryz.prog 171 #[.agg (BV nonce)] w0 (Ret w0 (I ((botN nonce : Nat) : Int))) := by
  refine enter (args := [.agg (BV nonce)]) Tryz.func171 rfl rfl ?_
  refine startw fun w hS => ?_
  refine rg ?_
  refine bxa hS rfl rfl rfl ?_
  intro b1 w hb1 hS
  refine asg rfl rfl rfl ?_
  refine wq_then ?_
  refine rg ?_
  refine ian (11) (11) Tryz.underlying173 sz5 rfl rfl rfl rfl (by omega) (by omega) (by omega) ?_
  refine lo 0 sc5 hS rfl rfl rfl rfl (BV_get _ 11 (by omega)) ?_
  refine and8 (q := (63 : UInt8)) rfl rfl rfl rfl ?_
  refine cvi Tryz.underlying3 ⟨_, Tryz.underlying5⟩ (by have := ((gv nonce 11) &&& 63).toNat_lt; omega) (by have := ((gv nonce 11) &&& 63).toNat_lt; omega) rfl rfl rfl ?_
  refine asg rfl rfl rfl ?_
  refine wq_then ?_
  refine wc_ret ?_
  refine fin1 (v := I ((((gv nonce 11) &&& 63).toNat : Int))) rfl rfl ?_
  exact ⟨rfl, hS.drop⟩
end Go.Proofs.XS

/- walks -/
namespace Go.Proofs.XS
open Go Go.X Go.Proofs
set_option maxRecDepth 100000 in
theorem sp_offset_whole (nonce : V8 12) (w0 : World) : Calls Tryz.prog 200 #[.agg (BV nonce)] w0 (Ret w0 (.agg (BV (wholeV nonce)))) := by
  refine enter (args := [.agg (BV nonce)]) Tryz.func200 rfl rfl ?_
  refine startw fun w hS => ?_
  refine rg ?_
  refine bxa hS rfl rfl rfl ?_
  intro b1 w hb1 hS
  refine ala zr22 hS rfl rfl ?_
  intro b2 w hb2 hS
  refine wq_then ?_
  refine rg ?_
  refine bd (cs := BV ((Vector.replicate 16 0).setIfInBounds 3 1)) rfl rfl rfl ((bu22 _).trans (fill_1 (off := 3) rfl rfl (le_sz (a := 16) (BV_size _) (by omega)) (BV_set _ _ (1 : UInt8)) <| rfl)) ?_
  refine ala zr22 hS rfl rfl ?_
  intro b3 w hb3 hS
  refine sa 0 ag22 hS rfl rfl rfl (BV_one _) rfl (BV_size _) (BV_size _) ?_
  intro w hS
  refine wq_then ?_
  refine rd mo 2 (fun w => St w0 [] [(b1, .cells (BV nonce) 173)] w) ?_
  have hS := hS.drew
  refine dq 0 rfl (by kernel_rfl) (by kernel_rfl) (by kernel_rfl) rfl rfl (fun w hS => a_ln (4) (4) Tryz.underlying22 sz5 rfl rfl rfl rfl (by omega) (by omega) (by omega) ⟨rfl, rfl⟩) (hS.sublist (.cons _ (.cons _ (.cons_cons _ (List.nil_sublist _))))) ?_
  refine dq 1 rfl (by kernel_rfl) (by kernel_rfl) (by kernel_rfl) rfl rfl (fun w hS => a_all Tryz.underlying173 ⟨_, sz5⟩ rfl rfl rfl ⟨rfl, rfl⟩) (hS.sublist (.cons _ (.cons _ (.cons_cons _ (List.nil_sublist _))))) ?_
  refine dl 2 rfl (by kernel_rfl) ?_
  refine cpy (cs' := BV (wholeV nonce)) (q := 12) (bs := nonce.toList) 0 sl30 hS rfl rfl rfl rfl rfl (Cel.bv (hS.get 2 rfl)) Vector.length_toList (by first | rfl | (simp only [Nat.min_def]; split <;> omega)) (le_sz (BV_size _) (by omega)) (cp_all _ 4 12 nonce.toList (by simp) (by simp)) ?_
  intro w hS
  refine ⟨fun h => (by cases h), ?_⟩
  refine de (by kernel_rfl) ?_
  refine wq_then ?_
  refine rg ?_
  refine la 0 ag22 hS rfl rfl rfl rfl (BV_size _) ?_
  refine sa 1 ag22 hS rfl rfl rfl (BV_one _) rfl (BV_size _) (BV_size _) ?_
  intro w hS
  refine wq_then ?_
  refine wc_ret ?_
  refine fin1 (v := .agg (BV (wholeV nonce))) rfl ⟨_, rfl, lv_a ag22 (hS.get 1 rfl) (BV_size _)⟩ ?_
  exact ⟨rfl, hS.drop⟩
end Go.Proofs.XS

/- walks -/
namespace Go.Proofs.XS
open Go Go.X Go.Proofs
set_option maxRecDepth 100000 in
theorem sp_offset_Top (t c : Nat) (key : V8 16) (nonce : V8 12) (w0 : World) (hT : TabAt w0 t c key) : Calls Tryz.prog 170 #[Ptr t 0, .agg (BV nonce)] w0 (Ret w0 (.agg (BV (topV key nonce)))) := by
  refine enter (args := [Ptr t 0, .agg (BV nonce)]) Tryz.func170 rfl rfl ?_
  refine startw fun w hS => ?_
  obtain ⟨⟨T, hT1⟩, E, hC⟩ := id hT
  refine rg ?_
  refine bxa hS rfl rfl rfl ?_
  intro b3 w hb3 hS
  refine ala zr22 hS rfl rfl ?_
  intro b4 w hb4 hS
  refine wq_then ?_
  refine rg ?_
  refine la 1 ag173 hS rfl rfl rfl rfl (BV_size _) ?_
  refine cv cf200 hS rfl rfl rfl rfl rfl (sp_offset_whole (nonce) _) ?_
  intro w hS
  refine ala zr22 hS rfl rfl ?_
  intro b5 w hb5 hS
  refine sa 0 ag22 hS rfl rfl rfl (BV_one _) rfl (BV_size _) (BV_size _) ?_
  intro w hS
  refine wq_then ?_
  refine rg ?_
  refine ian (15) (15) Tryz.underlying22 sz5 rfl rfl rfl rfl (by omega) (by omega) (by omega) ?_
  refine lo 0 sc5 hS rfl rfl rfl rfl (BV_get _ 15 (by omega)) ?_
  refine andn8 (q := (63 : UInt8)) rfl rfl rfl rfl ?_
  refine ian (15) (15) Tryz.underlying22 sz5 rfl rfl rfl rfl (by omega) (by omega) (by omega) ?_
  refine st 0 sz5 hS rfl rfl rfl rfl rfl rfl (by rw [BV_size]; omega) (BV_set _ _ ((gv (wholeV nonce) 15) &&& ~~~63 : UInt8)) ?_
  intro w hS
  refine wq_then ?_
  refine rd mo 4 (fun w => St w0 [] [(b5, .cells (BV ((wholeV nonce).setIfInBounds 15 ((gv (wholeV nonce) 15) &&& ~~~63))) 22), (b4, .cells (BV (Vector.replicate 16 0)) 22), (b3, .cells (BV nonce) 173)] w) ?_
  have hS := hS.drew
  refine dq 0 rfl (by kernel_rfl) (by kernel_rfl) (by kernel_rfl) rfl rfl (fun w hS => mv rfl rfl rfl ⟨rfl, rfl⟩) hS ?_
  refine dq 2 rfl (by kernel_rfl) (by kernel_rfl) (by kernel_rfl) rfl rfl (fun w hS => la 0 ag22 hS rfl rfl rfl rfl (BV_size _) ⟨rfl, rfl⟩) hS ?_
  refine dl 1 rfl (by kernel_rfl) ?_
  refine cv cf144 hS rfl rfl rfl rfl rfl (sp_table_Table_Cipher (t) (c) (key) _ (hT.st hS)) ?_
  intro w hS
  refine ⟨fun _ => hS, ?_⟩
  refine dl 3 rfl (by kernel_rfl) ?_
  refine cv cf71 hS rfl rfl rfl rfl rfl (sp_fast_Cipher_Encrypt (c) (_) (key) (((wholeV nonce).setIfInBounds 15 ((gv (wholeV nonce) 15) &&& ~~~63))) _ (hS.old hC List.not_mem_nil)) ?_
  intro w hS
  refine ⟨fun _ => hS, ?_⟩
  refine dl 4 rfl (by kernel_rfl) ?_
  refine sa 1 ag22 hS rfl rfl rfl (BV_one _) rfl (BV_size _) (BV_size _) ?_
  intro w hS
  refine ⟨fun h => (by cases h), ?_⟩
  refine de (by kernel_rfl) ?_
  refine wq_then ?_
  refine wc_ret ?_
  refine fin1 (v := .agg (BV (enc key ((wholeV nonce).setIfInBounds 15 ((gv (wholeV nonce) 15) &&& ~~~63))))) rfl ⟨_, rfl, lv_a ag22 (hS.get 1 rfl) (BV_size _)⟩ ?_
  exact ⟨rfl, hS.drop⟩
end Go.Proofs.XS

/- walks -/
namespace Go.Proofs.XS
open Go Go.X Go.Proofs
set_option maxRecDepth 100000 in
theorem sp_offset_Stretch (b : V8 16) (w0 : World) : Calls Tryz.prog 169 #[.agg (BV b)] w0 (Ret w0 (.agg (BV (strL b 8)))) := by
  refine enter (args := [.agg (BV b)]) Tryz.func169 rfl rfl ?_
  refine startw fun w hS => ?_
  refine rg ?_
  refine bxa hS rfl rfl rfl ?_
  intro b1 w hb1 hS
  refine ala zr255 hS rfl rfl ?_
  intro b2 w hb2 hS
  refine wq_then ?_
  refine rg ?_
  refine ala zr255 hS rfl rfl ?_
  intro b3 w hb3 hS
  refine wq_then ?_
  refine rd mo 2 (fun w => St w0 [] [(b1, .cells (BV b) 22)] w) ?_
  have hS := hS.drew
  refine dq 0 rfl (by kernel_rfl) (by kernel_rfl) (by kernel_rfl) rfl rfl (fun w hS => a_all Tryz.underlying255 ⟨_, sz5⟩ rfl rfl rfl ⟨rfl, rfl⟩) (hS.sublist (.cons _ (.cons _ (.cons_cons _ (List.nil_sublist _))))) ?_
  refine dq 1 rfl (by kernel_rfl) (by kernel_rfl) (by kernel_rfl) rfl rfl (fun w hS => a_all Tryz.underlying22 ⟨_, sz5⟩ rfl rfl rfl ⟨rfl, rfl⟩) (hS.sublist (.cons _ (.cons _ (.cons_cons _ (List.nil_sublist _))))) ?_
  refine dl 2 rfl (by kernel_rfl) ?_
  refine cpy (cs' := BV (strL b 0)) (q := 16) (bs := b.toList) 0 sl30 hS rfl rfl rfl rfl rfl (Cel.bv (hS.get 2 rfl)) Vector.length_toList (by first | rfl | (simp only [Nat.min_def]; split <;> omega)) (le_sz (BV_size _) (by omega)) (cp_all _ 0 16 b.toList (by simp) (by simp)) ?_
  intro w hS
  refine ⟨fun h => (by cases h), ?_⟩
  refine dl 3 rfl (by kernel_rfl) ?_
  refine asg rfl rfl rfl ?_
  refine ⟨fun h => (by cases h), ?_⟩
  refine de (by kernel_rfl) ?_
  refine wq_then ?_
  refine wc_seq ?_
  refine rg ?_
  refine mv rfl rfl rfl ?_
  refine wq_then ?_
  refine wc_block ?_
  refine wc_loop (σ := Nat) (fun k => [(1, Ptr b1 0), (2, Ptr b2 0), (3, Ptr b3 0), (4, I ((16 : Int))), (9, I ((k : Int)))])
    (fun k w => (k ≤ 8) ∧ St w0 [] [(b3, .cells (BV (strL b k)) 255), (b2, .cells (BV (Vector.replicate 24 0)) 255), (b1, .cells (BV b) 22)] w) (fun k => 8 - k) 0 ⟨rfl, rfl, rfl, rfl, rfl, trivial⟩ ⟨by omega, hS⟩ ?_
  rintro k w ⟨hk, hS⟩
  refine rg ?_
  refine lss rfl rfl rfl rfl ?_
  refine wq_then ?_
  refine wc_seq ?_
  refine wc_if rfl (fun hc1 => ?_) (fun hc1 => ?_)
  · skip
    try simp only [SB] at hc1
    refine wc_skip ?_
    refine wq_then ?_
    refine wc_seq ?_
    refine wc_block ?_
    refine rg ?_
    refine mv rfl rfl rfl ?_
    refine asg rfl rfl rfl ?_
    refine wq_then ?_
    refine wc_draw mo 11 (fun w => St w0 [] [(b1, .cells (BV b) 22)] w) ?_
    have hS := hS.drew
    refine dq 0 rfl (by kernel_rfl) (by kernel_rfl) (by kernel_rfl) rfl rfl (fun w hS => mv rfl rfl rfl ⟨rfl, rfl⟩) (hS.sublist (.cons _ (.cons _ (.cons_cons _ (List.nil_sublist _))))) ?_
    refine dq 1 rfl (by kernel_rfl) (by kernel_rfl) (by kernel_rfl) rfl rfl (fun w hS => mv rfl rfl rfl ⟨rfl, rfl⟩) (hS.sublist (.cons _ (.cons _ (.cons_cons _ (List.nil_sublist _))))) ?_
    refine dq 2 rfl (by kernel_rfl) (by kernel_rfl) (by kernel_rfl) rfl rfl (fun w hS => addi (by omega) (by omega) rfl rfl rfl rfl ⟨rfl, rfl⟩) (hS.sublist (.cons _ (.cons _ (.cons_cons _ (List.nil_sublist _))))) ?_
    refine dq 3 rfl (by kernel_rfl) (by kernel_rfl) (by kernel_rfl) rfl rfl (fun w hS => mv rfl rfl rfl ⟨rfl, rfl⟩) (hS.sublist (.cons _ (.cons _ (.cons_cons _ (List.nil_sublist _))))) ?_
    refine dq 4 rfl (by kernel_rfl) (by kernel_rfl) (by kernel_rfl) rfl rfl (fun w hS => ian (k) (k) Tryz.underlying22 sz5 rfl rfl rfl rfl (by omega) (by omega) (by omega) ⟨rfl, rfl⟩) (hS.sublist (.cons _ (.cons _ (.cons_cons _ (List.nil_sublist _))))) ?_
    refine dq 5 rfl (by kernel_rfl) (by kernel_rfl) (by kernel_rfl) rfl rfl (fun w hS => lo 0 sc5 hS rfl rfl rfl rfl (BV_get _ k (by omega)) ⟨rfl, rfl⟩) (hS.sublist (.cons _ (.cons _ (.cons_cons _ (List.nil_sublist _))))) ?_
    refine dq 6 rfl (by kernel_rfl) (by kernel_rfl) (by kernel_rfl) rfl rfl (fun w hS => mv rfl rfl rfl ⟨rfl, rfl⟩) (hS.sublist (.cons _ (.cons _ (.cons_cons _ (List.nil_sublist _))))) ?_
    refine dq 7 rfl (by kernel_rfl) (by kernel_rfl) (by kernel_rfl) rfl rfl (fun w hS => addi (by omega) (by omega) rfl rfl rfl rfl ⟨rfl, rfl⟩) (hS.sublist (.cons _ (.cons _ (.cons_cons _ (List.nil_sublist _))))) ?_
    refine dq 8 rfl (by kernel_rfl) (by kernel_rfl) (by kernel_rfl) rfl rfl (fun w hS => ian (k + 1) ((k + 1)) Tryz.underlying22 sz5 rfl rfl rfl rfl (by omega) (by omega) (by omega) ⟨rfl, rfl⟩) (hS.sublist (.cons _ (.cons _ (.cons_cons _ (List.nil_sublist _))))) ?_
    refine dq 9 rfl (by kernel_rfl) (by kernel_rfl) (by kernel_rfl) rfl rfl (fun w hS => lo 0 sc5 hS rfl rfl rfl rfl (BV_get _ (k + 1) (by omega)) ⟨rfl, rfl⟩) (hS.sublist (.cons _ (.cons _ (.cons_cons _ (List.nil_sublist _))))) ?_
    refine dq 10 rfl (by kernel_rfl) (by kernel_rfl) (by kernel_rfl) rfl rfl (fun w hS => xor8 rfl rfl rfl rfl ⟨rfl, rfl⟩) (hS.sublist (.cons _ (.cons _ (.cons_cons _ (List.nil_sublist _))))) ?_
    refine dl 11 rfl (by kernel_rfl) ?_
    refine ian (16 + k) ((16 + k)) Tryz.underlying255 sz5 rfl rfl rfl rfl (by omega) (by omega) (by omega) ?_
    refine ⟨fun h => (by cases h), ?_⟩
    refine dl 12 rfl (by kernel_rfl) ?_
    refine st 0 sz5 hS rfl rfl rfl rfl rfl rfl (by rw [BV_size]; omega) (BV_set _ _ ((gv b k) ^^^ (gv b (k + 1)) : UInt8)) ?_
    intro w hS
    refine ⟨fun h => (by cases h), ?_⟩
    refine de (by kernel_rfl) ?_
    refine q_block_norm ?_
    refine wq_then ?_
    refine wc_region ?_
    refine addi (by omega) (by omega) rfl rfl rfl rfl ?_
    refine mv rfl rfl rfl ?_
    refine again_q (k + 1) ⟨rfl, rfl, rfl, rfl, lkI rfl (by first | omega | rfl), trivial⟩ ⟨by omega, hS⟩ (by omega)
  · skip
    try simp only [SB] at hc1
    refine wc_exit ?_
    refine q_then_exit ?_
    refine q_then_exit ?_
    refine q_block_hit ?_
    refine wq_then ?_
    refine rg ?_
    refine la 0 ag255 hS rfl rfl rfl rfl (BV_size _) ?_
    refine sa 1 ag255 hS rfl rfl rfl (BV_one _) rfl (BV_size _) (BV_size _) ?_
    intro w hS
    refine wq_then ?_
    refine wc_ret ?_
    refine fin1 (v := .agg (BV (strL b k))) rfl ⟨_, rfl, lv_a ag255 (hS.get 1 rfl) (BV_size _)⟩ ?_
    refine ⟨?_, hS.drop⟩
    have hk8 : k = 8 := by omega
    subst hk8; rfl
end Go.Proofs.XS

/- walks -/
namespace Go.Proofs.XS
open Go Go.X Go.Proofs
set_option maxRecDepth 100000 in
theorem sp_offset_Start (t c : Nat) (key : V8 16) (nonce : V8 12) (w0 : World) (hT : TabAt w0 t c key) : Calls Tryz.prog 139 #[Ptr t 0, .agg (BV nonce)] w0 (Ret w0 (.agg (BV (startV key nonce)))) := by
  refine enter (args := [Ptr t 0, .agg (BV nonce)]) Tryz.func139 rfl rfl ?_
  refine startw fun w hS => ?_
  obtain ⟨⟨T, hT1⟩, E, hC⟩ := id hT
  have hb := botN_lt nonce
  refine rg ?_
  refine bxa hS rfl rfl rfl ?_
  intro b3 w hb3 hS
  refine ala zr22 hS rfl rfl ?_
  intro b4 w hb4 hS
  refine wq_then ?_
  refine rd mo 7 (fun w => St w0 [] [(b4, .cells (BV (Vector.replicate 16 0)) 22), (b3, .cells (BV nonce) 173)] w) ?_
  have hS := hS.drew
  refine dq 0 rfl (by kernel_rfl) (by kernel_rfl) (by kernel_rfl) rfl rfl (fun w hS => mv rfl rfl rfl ⟨rfl, rfl⟩) hS ?_
  refine dq 1 rfl (by kernel_rfl) (by kernel_rfl) (by kernel_rfl) rfl rfl (fun w hS => la 1 ag173 hS rfl rfl rfl rfl (BV_size _) ⟨rfl, rfl⟩) hS ?_
  refine dq 4 rfl (by kernel_rfl) (by kernel_rfl) (by kernel_rfl) rfl rfl (fun w hS => la 1 ag173 hS rfl rfl rfl rfl (BV_size _) ⟨rfl, rfl⟩) hS ?_
  refine dl 2 rfl (by kernel_rfl) ?_
  refine cv cf170 hS rfl rfl rfl rfl rfl (sp_offset_Top (t) (c) (key) (nonce) _ (hT.st hS)) ?_
  intro w hS
  refine ⟨fun _ => hS, ?_⟩
  refine dl 3 rfl (by kernel_rfl) ?_
  refine cv cf169 hS rfl rfl rfl rfl rfl (sp_offset_Stretch ((topV key nonce)) _) ?_
  intro w hS
  refine ⟨fun _ => hS, ?_⟩
  refine dl 5 rfl (by kernel_rfl) ?_
  refine cv cf171 hS rfl rfl rfl rfl rfl (sp_offset_Bottom (nonce) _) ?_
  intro w hS
  refine ⟨fun _ => hS, ?_⟩
  refine dl 6 rfl (by kernel_rfl) ?_
  refine cv cf168 hS rfl rfl rfl rfl rfl (sp_block_Shift ((strL (topV key nonce) 8)) ((botN nonce)) _ _ (by omega) (by omega)) ?_
  intro w hS
  refine ⟨fun _ => hS, ?_⟩
  refine dl 7 rfl (by kernel_rfl) ?_
  refine sa 0 ag22 hS rfl rfl rfl (BV_one _) rfl (BV_size _) (BV_size _) ?_
  intro w hS
  refine ⟨fun h => (by cases h), ?_⟩
  refine de (by kernel_rfl) ?_
  refine wq_then ?_
  refine wc_ret ?_
  refine fin1 (v := .agg (BV (shiftV (strL (topV key nonce) 8) (botN nonce)))) rfl ⟨_, rfl, lv_a ag22 (hS.get 0 rfl) (BV_size _)⟩ ?_
  exact ⟨rfl, hS.drop⟩
end Go.Proofs.XS

/- walks -/
namespace Go.Proofs.XS
open Go Go.X Go.Proofs
set_option maxRecDepth 100000 in
theorem sp_seal_Crypt_1 (a : Option Addr) (n cap : Nat) (bs : List UInt8) (ob E : Nat) (oa : Option Addr) (on oc : Nat) (xs : List UInt8) (X : List (Nat × Obj)) (w0 : World) (hn : bs.length = n) (hN : on + n ≤ 2000000) (hc : Cel w0 a (c8 bs)) (hb : w0.heap[ob]? = some (.cells #[.slice oa on oc] E)) (hO : Own 1 oa on oc (c8 xs) X) (hX : ∀ p ∈ X, w0.heap[p.1]? = some p.2) (hd : (ob :: X.map Prod.fst).Nodup) : Calls Tryz.prog 140 #[.slice a n cap, Ptr ob 0] w0 fun e w' => ∃ a' c' X', (∃ v, e = .returned v) ∧ Own 1 a' (on + n) c' (c8 (xs ++ bs)) X' ∧ St w0 (ob :: X.map Prod.fst) ((ob, .cells #[.slice a' (on + n) c'] E) :: (X' ++ [])) w' := by
  refine enter (args := [.slice a n cap, Ptr ob 0]) Tryz.func140 rfl rfl ?_
  have hS : St w0 (ob :: X.map Prod.fst) ([(ob, .cells (#[.slice oa on oc]) E)] ++ (X ++ [])) w0 := by
    have h := St.start w0 ((ob, .cells #[.slice oa on oc] E) :: X) (fun p hp => by rcases List.mem_cons.1 hp with rfl | hp; exact hb; exact hX p hp) hd
    simpa using h
  refine wc_region ?_
  refine lo 0 sc30 hS rfl rfl rfl rfl rfl ?_
  refine mv rfl rfl rfl ?_
  refine app (A := [(ob, .cells (#[.slice oa on oc]) E)]) (R := []) sl30 hO hS rfl rfl rfl rfl (src8 Tryz.underlying30 _ hc (by first | rfl | omega | (simp; omega) | (simp; done))) (by omega) (by omega) ?_
  intro a5 c5 X5 w hO5 hS
  try simp only [c8_app] at hO5
  refine st 0 sz30 hS rfl rfl rfl rfl rfl rfl Nat.zero_lt_one rfl ?_
  intro w hS
  refine q_norm_ret ?_
  refine fin0 rfl ?_
  exact ⟨_, _, _, ⟨_, rfl⟩, hO5, hS⟩
end Go.Proofs.XS

/- walks -/
namespace Go.Proofs.XS
open Go Go.X Go.Proofs
set_option maxRecDepth 100000 in
theorem sp_seal_Crypt (t c : Nat) (key : V8 16) (nonce : V8 12) (a : Option Addr) (n cap : Nat) (bs : List UInt8) (w0 : World) (hT : TabAt w0 t c key) (hn : bs.length = n) (hN : n ≤ 1000000) (hc : Cel w0 a (c8 bs)) (hcap : n ≤ cap) (hG : Gl 1 w0) : Calls Tryz.prog 116 #[Ptr t 0, .agg (BV nonce), .slice a n cap] w0 (RetS w0 (fun v X => ∃ a' c', v = .tuple #[.slice a' n c', .agg (BV (cryC bs)), .agg (BV (cryO key nonce n))] ∧ Own 1 a' n c' (c8 (cryT key nonce bs)) X)) := by
  refine enterM (args := [Ptr t 0, .agg (BV nonce), .slice a n cap]) Tryz.func116 rfl rfl ?_
  refine startw fun w hS => ?_
  obtain ⟨⟨T, hT1⟩, E, hC⟩ := id hT
  refine rg ?_
  refine bx1 hS rfl rfl rfl rfl ?_
  intro b3 w hb3 hS
  refine bxa hS rfl rfl rfl ?_
  intro b4 w hb4 hS
  refine al1 zr30 hS rfl rfl rfl ?_
  intro b6 w hb6 hS
  refine ala zr22 hS rfl rfl ?_
  intro b7 w hb7 hS
  refine ala zr22 hS rfl rfl ?_
  intro b8 w hb8 hS
  refine wq_then ?_
  refine rg ?_
  refine lo 4 sc77 hS rfl rfl rfl rfl rfl ?_
  refine la 3 ag173 hS rfl rfl rfl rfl (BV_size _) ?_
  refine cv cf139 hS rfl rfl rfl rfl rfl (sp_offset_Start (t) (c) (key) (nonce) _ (hT.st hS)) ?_
  intro w hS
  refine sa 0 ag22 hS rfl rfl rfl (BV_one _) rfl (BV_size _) (BV_size _) ?_
  intro w hS
  refine wq_then ?_
  refine rg ?_
  refine mkf rfl rfl rfl ?_
  refine al1 zr230 hS rfl rfl rfl ?_
  intro b9 w hb9 hS
  refine st 0 sz230 hS rfl rfl rfl rfl rfl rfl Nat.zero_lt_one rfl ?_
  intro w hS
  refine wq_then ?_
  refine wc_seq ?_
  refine rg ?_
  refine mv rfl rfl rfl ?_
  refine cs cf141 hS rfl rfl rfl rfl rfl (sp_block_All (a) (n) (cap) _) ?_
  rintro _ _ w ⟨b23, rfl, rfl⟩ hS
  refine wq_then ?_
  refine wc_block ?_
  refine wc_range2 (m := 0) (fun k => I ((k + 1 : Nat) : Int)) (fun k => .agg (BV (blk bs k))) (n / 16) (fun W => W.heap[b23]? = some (.cells #[.slice a n cap] 30) ∧ Cel W a (c8 bs)) (fun k L => ∃ s : Option Addr × Nat × List (Nat × Obj), (Own 1 s.1 (k * 16) s.2.1 (c8 (crT key nonce bs k)) s.2.2) ∧ L = ([(b23, .cells (#[(.slice a n cap)]) 30), (b9, .cells (#[.func (.func 140) #[] #[Ptr b6 0]]) 230), (b8, .cells (BV (crO key nonce k)) 22), (b7, .cells (BV (crC bs k)) 22), (b6, .cells (#[.slice s.1 (k * 16) s.2.1]) 30), (b4, .cells (BV nonce) 173), (b3, .cells (#[Ptr t 0]) 77)] ++ (s.2.2 ++ []))) rfl cf172 rfl rfl hS ⟨(none, 0, []), Own.nil 1, rfl⟩ ?_ ?_ ?_ ?_
  · exact fun lp J W hJ hY h0 => sp_block_All_1 0 lp b23 _ n cap a bs J hn hN hcap hJ hY W h0
  · exact fun k L' W hL hS => by obtain ⟨s, hinv, rfl⟩ := hL; exact ⟨hS.get 0 rfl, hc.st hS⟩
  · rintro k lp D r _ w hr hp hk ⟨s, hO, rfl⟩ hS
    have hS : St w0 [] ([(lp, .loop r), (D, .deferred (some [])), (b23, .cells (#[(.slice a n cap)]) 30), (b9, .cells (#[.func (.func 140) #[] #[Ptr b6 0]]) 230), (b8, .cells (BV (crO key nonce k)) 22), (b7, .cells (BV (crC bs k)) 22), (b6, .cells (#[.slice s.1 (k * 16) s.2.1]) 30), (b4, .cells (BV nonce) 173), (b3, .cells (#[Ptr t 0]) 77)] ++ (s.2.2 ++ [])) w := hS
    have hx := toU64_ne (k + 1) (by omega) (by omega)
    refine rgi ?_
    refine wi rfl (asg rfl rfl rfl ?_)
    refine wqi_then ?_
    refine wci_region ?_
    refine wi rfl (ala zr22 hS rfl rfl ?_)
    intro b11 w hb11 hS
    refine wi rfl (sa 0 ag22 hS rfl rfl rfl (BV_one _) rfl (BV_size _) (BV_size _) ?_)
    intro w hS
    refine begin_q 1 hS rfl hr (fun w hS => wk_ci ?_)
    refine wci_block ?_
    refine rgi ?_
    refine wi rfl (lo 9 sc77 hS rfl rfl rfl rfl rfl ?_)
    refine wi rfl (la 5 ag22 hS rfl rfl rfl rfl (BV_size _) ?_)
    refine wi rfl (mv rfl rfl rfl ?_)
    refine wi rfl (cvu64 Tryz.underlying24 ⟨_, Tryz.underlying3⟩ rfl rfl rfl ?_)
    refine wi rfl (cv (v := .agg (BV (crO key nonce (k + 1)))) cf142 hS rfl rfl rfl rfl rfl (sp_offset_Next (t) (c) (key) ((crO key nonce k)) ((toU64 (((k + 1 : Nat) : Int)))) _ (hT.st hS) (by assumption) (hG.st hS)) ?_)
    intro w hS
    refine wi rfl (sa 5 ag22 hS rfl rfl rfl (BV_one _) rfl (BV_size _) (BV_size _) ?_)
    intro w hS
    refine wqi_then ?_
    refine rdi mo (by kernel_rfl) 9 (fun w => St w0 [] ([(b11, .cells (BV (blk bs k)) 22), (lp, .loop { r with state := .busy }), (D, .deferred (some [])), (b23, .cells (#[(.slice a n cap)]) 30), (b9, .cells (#[.func (.func 140) #[] #[Ptr b6 0]]) 230), (b8, .cells (BV (crO key nonce (k + 1))) 22), (b7, .cells (BV (crC bs k)) 22), (b6, .cells (#[.slice s.1 (k * 16) s.2.1]) 30), (b4, .cells (BV nonce) 173), (b3, .cells (#[Ptr t 0]) 77)] ++ (s.2.2 ++ [])) w) ?_
    have hS := hS.drew
    refine dq 0 rfl (by kernel_rfl) (by kernel_rfl) (by kernel_rfl) rfl rfl (fun w hS => la 5 ag22 hS rfl rfl rfl rfl (BV_size _) ⟨rfl, rfl⟩) hS ?_
    refine dq 1 rfl (by kernel_rfl) (by kernel_rfl) (by kernel_rfl) rfl rfl (fun w hS => lo 9 sc77 hS rfl rfl rfl rfl rfl ⟨rfl, rfl⟩) hS ?_
    refine dq 3 rfl (by kernel_rfl) (by kernel_rfl) (by kernel_rfl) rfl rfl (fun w hS => la 0 ag22 hS rfl rfl rfl rfl (BV_size _) ⟨rfl, rfl⟩) hS ?_
    refine dq 4 rfl (by kernel_rfl) (by kernel_rfl) (by kernel_rfl) rfl rfl (fun w hS => la 5 ag22 hS rfl rfl rfl rfl (BV_size _) ⟨rfl, rfl⟩) hS ?_
    refine dl2 2 8 rfl rfl (by kernel_rfl) ?_ ?_
    · skip
      refine cv cf144 hS rfl rfl rfl rfl rfl (sp_table_Table_Cipher (t) (c) (key) _ (hT.st hS)) ?_
      intro w hS
      refine ⟨fun _ => hS, ?_⟩
      refine dl2 5 8 rfl rfl (by kernel_rfl) ?_ ?_
      · skip
        refine cv cf143 hS rfl rfl rfl rfl rfl (sp_block_Xor ((blk bs k)) ((crO key nonce (k + 1))) _) ?_
        intro w hS
        refine ⟨fun _ => hS, ?_⟩
        refine dl2 6 8 rfl rfl (by kernel_rfl) ?_ ?_
        · skip
          refine cv cf71 hS rfl rfl rfl rfl rfl (sp_fast_Cipher_Encrypt (c) (_) (key) ((xorV (blk bs k) (crO key nonce (k + 1)))) _ (hS.old hC List.not_mem_nil)) ?_
          intro w hS
          refine ⟨fun _ => hS, ?_⟩
          refine dl2 7 8 rfl rfl (by kernel_rfl) ?_ ?_
          · skip
            refine cv (v := .agg (BV (crB key nonce bs k))) cf143 hS rfl rfl rfl rfl rfl (sp_block_Xor ((crO key nonce (k + 1))) ((enc key (xorV (blk bs k) (crO key nonce (k + 1))))) _) ?_
            intro w hS
            refine ⟨fun _ => hS, ?_⟩
            refine dl 8 rfl (by kernel_rfl) ?_
            refine ala zr22 hS rfl rfl ?_
            intro b12 w hb12 hS
            refine ⟨fun _ => hS.tl, ?_⟩
            refine dl 9 rfl (by kernel_rfl) ?_
            refine sa 0 ag22 hS rfl rfl rfl (BV_one _) rfl (BV_size _) (BV_size _) ?_
            intro w hS
            refine ⟨fun h => (by cases h), ?_⟩
            refine de (by kernel_rfl) ?_
            refine wqi_then ?_
            refine rdi mo (by kernel_rfl) 2 (fun w => St w0 [] ([(b12, .cells (BV (crB key nonce bs k)) 22), (b11, .cells (BV (blk bs k)) 22), (lp, .loop { r with state := .busy }), (D, .deferred (some [])), (b23, .cells (#[(.slice a n cap)]) 30), (b9, .cells (#[.func (.func 140) #[] #[Ptr b6 0]]) 230), (b8, .cells (BV (crO key nonce (k + 1))) 22), (b7, .cells (BV (crC bs k)) 22), (b6, .cells (#[.slice s.1 (k * 16) s.2.1]) 30), (b4, .cells (BV nonce) 173), (b3, .cells (#[Ptr t 0]) 77)] ++ (s.2.2 ++ [])) w) ?_
            have hS := hS.drew
            refine dq 0 rfl (by kernel_rfl) (by kernel_rfl) (by kernel_rfl) rfl rfl (fun w hS => lo 5 sc230 hS rfl rfl rfl rfl rfl ⟨rfl, rfl⟩) hS ?_
            refine dq 1 rfl (by kernel_rfl) (by kernel_rfl) (by kernel_rfl) rfl rfl (fun w hS => a_all Tryz.underlying22 ⟨_, sz5⟩ rfl rfl rfl ⟨rfl, rfl⟩) hS ?_
            refine dl 2 rfl (by kernel_rfl) ?_
            refine cl cf140 rfl rfl rfl rfl rfl (sp_seal_Crypt_1 (some ⟨b12, 0, none⟩) 16 16 ((crB key nonce bs k).toList) _ _ s.1 (k * 16) s.2.1 (crT key nonce bs k) s.2.2 _ Vector.length_toList (by omega) (Cel.bv (hS.get 0 rfl)) (hS.get 8 rfl) hO (fun p hp => (hS.own p (by simp [hp])).2) (St.nd (A := [(b12, .cells (BV (crB key nonce bs k)) 22), (b11, .cells (BV (blk bs k)) 22), (lp, .loop { r with state := .busy }), (D, .deferred (some [])), (b23, .cells (#[(.slice a n cap)]) 30), (b9, .cells (#[.func (.func 140) #[] #[Ptr b6 0]]) 230), (b8, .cells (BV (crO key nonce (k + 1))) 22), (b7, .cells (BV (crC bs k)) 22), (b6, .cells (#[.slice s.1 (k * 16) s.2.1]) 30), (b4, .cells (BV nonce) 173), (b3, .cells (#[Ptr t 0]) 77)]) (R := []) (i := 8) hS rfl)) ?_
            rintro _ w ⟨a41, c41, X41, ⟨v41, rfl⟩, hO41, hS1⟩
            refine ⟨_, rfl, ?_⟩
            have hS : St w0 [] ([(b12, .cells (BV (crB key nonce bs k)) 22), (b11, .cells (BV (blk bs k)) 22), (lp, .loop { r with state := .busy }), (D, .deferred (some [])), (b23, .cells (#[(.slice a n cap)]) 30), (b9, .cells (#[.func (.func 140) #[] #[Ptr b6 0]]) 230), (b8, .cells (BV (crO key nonce (k + 1))) 22), (b7, .cells (BV (crC bs k)) 22), (b6, .cells (#[.slice a41 ((k * 16) + 16) c41]) 30), (b4, .cells (BV nonce) 173), (b3, .cells (#[Ptr t 0]) 77)] ++ (X41 ++ [])) w := St.call_out (A := [(b12, .cells (BV (crB key nonce bs k)) 22), (b11, .cells (BV (blk bs k)) 22), (lp, .loop { r with state := .busy }), (D, .deferred (some [])), (b23, .cells (#[(.slice a n cap)]) 30), (b9, .cells (#[.func (.func 140) #[] #[Ptr b6 0]]) 230), (b8, .cells (BV (crO key nonce (k + 1))) 22), (b7, .cells (BV (crC bs k)) 22), (b6, .cells (#[.slice s.1 (k * 16) s.2.1]) 30), (b4, .cells (BV nonce) 173), (b3, .cells (#[Ptr t 0]) 77)]) (i := 8) hS rfl hS1
            refine ⟨fun h => (by cases h), ?_⟩
            refine de (by kernel_rfl) ?_
            refine wqi_then ?_
            refine wci_region ?_
            refine wi rfl (la 7 ag22 hS rfl rfl rfl rfl (BV_size _) ?_)
            refine wi rfl (la 1 ag22 hS rfl rfl rfl rfl (BV_size _) ?_)
            refine wi rfl (cv cf143 hS rfl rfl rfl rfl rfl (sp_block_Xor ((crC bs k)) ((blk bs k)) _) ?_)
            intro w hS
            refine wi rfl (sa 7 ag22 hS rfl rfl rfl (BV_one _) rfl (BV_size _) (BV_size _) ?_)
            intro w hS
            refine q_block_norm ?_
            refine end_q 2 hS rfl hr hp (fun w hS => ?_)
            have e16 : k * 16 + 16 = (k + 1) * 16 := by omega
            rw [e16] at hS hO41
            exact ⟨rfl, _, ⟨(a41, c41, X41), hO41, rfl⟩, hS.tl.tl⟩
          · skip
            refine ala zr22 hS rfl rfl ?_
            intro b12 w hb12 hS
            refine ⟨fun _ => hS.tl, ?_⟩
            refine dl 7 rfl (by kernel_rfl) ?_
            refine cv (v := .agg (BV (crB key nonce bs k))) cf143 hS rfl rfl rfl rfl rfl (sp_block_Xor ((crO key nonce (k + 1))) ((enc key (xorV (blk bs k) (crO key nonce (k + 1))))) _) ?_
            intro w hS
            refine ⟨fun _ => hS.tl, ?_⟩
            refine dl 9 rfl (by kernel_rfl) ?_
            refine sa 0 ag22 hS rfl rfl rfl (BV_one _) rfl (BV_size _) (BV_size _) ?_
            intro w hS
            refine ⟨fun h => (by cases h), ?_⟩
            refine de (by kernel_rfl) ?_
            refine wqi_then ?_
            refine rdi mo (by kernel_rfl) 2 (fun w => St w0 [] ([(b12, .cells (BV (crB key nonce bs k)) 22), (b11, .cells (BV (blk bs k)) 22), (lp, .loop { r with state := .busy }), (D, .deferred (some [])), (b23, .cells (#[(.slice a n cap)]) 30), (b9, .cells (#[.func (.func 140) #[] #[Ptr b6 0]]) 230), (b8, .cells (BV (crO key nonce (k + 1))) 22), (b7, .cells (BV (crC bs k)) 22), (b6, .cells (#[.slice s.1 (k * 16) s.2.1]) 30), (b4, .cells (BV nonce) 173), (b3, .cells (#[Ptr t 0]) 77)] ++ (s.2.2 ++ [])) w) ?_
            have hS := hS.drew
            refine dq 0 rfl (by kernel_rfl) (by kernel_rfl) (by kernel_rfl) rfl rfl (fun w hS => lo 5 sc230 hS rfl rfl rfl rfl rfl ⟨rfl, rfl⟩) hS ?_
            refine dq 1 rfl (by kernel_rfl) (by kernel_rfl) (by kernel_rfl) rfl rfl (fun w hS => a_all Tryz.underlying22 ⟨_, sz5⟩ rfl rfl rfl ⟨rfl, rfl⟩) hS ?_
            refine dl 2 rfl (by kernel_rfl) ?_
            refine cl cf140 rfl rfl rfl rfl rfl (sp_seal_Crypt_1 (some ⟨b12, 0, none⟩) 16 16 ((crB key nonce bs k).toList) _ _ s.1 (k * 16) s.2.1 (crT key nonce bs k) s.2.2 _ Vector.length_toList (by omega) (Cel.bv (hS.get 0 rfl)) (hS.get 8 rfl) hO (fun p hp => (hS.own p (by simp [hp])).2) (St.nd (A := [(b12, .cells (BV (crB key nonce bs k)) 22), (b11, .cells (BV (blk bs k)) 22), (lp, .loop { r with state := .busy }), (D, .deferred (some [])), (b23, .cells (#[(.slice a n cap)]) 30), (b9, .cells (#[.func (.func 140) #[] #[Ptr b6 0]]) 230), (b8, .cells (BV (crO key nonce (k + 1))) 22), (b7, .cells (BV (crC bs k)) 22), (b6, .cells (#[.slice s.1 (k * 16) s.2.1]) 30), (b4, .cells (BV nonce) 173), (b3, .cells (#[Ptr t 0]) 77)]) (R := []) (i := 8) hS rfl)) ?_
            rintro _ w ⟨a41, c41, X41, ⟨v41, rfl⟩, hO41, hS1⟩
            refine ⟨_, rfl, ?_⟩
            have hS : St w0 [] ([(b12, .cells (BV (crB key nonce bs k)) 22), (b11, .cells (BV (blk bs k)) 22), (lp, .loop { r with state := .busy }), (D, .deferred (some [])), (b23, .cells (#[(.slice a n cap)]) 30), (b9, .cells (#[.func (.func 140) #[] #[Ptr b6 0]]) 230), (b8, .cells (BV (crO key nonce (k + 1))) 22), (b7, .cells (BV (crC bs k)) 22), (b6, .cells (#[.slice a41 ((k * 16) + 16) c41]) 30), (b4, .cells (BV nonce) 173), (b3, .cells (#[Ptr t 0]) 77)] ++ (X41 ++ [])) w := St.call_out (A := [(b12, .cells (BV (crB key nonce bs k)) 22), (b11, .cells (BV (blk bs k)) 22), (lp, .loop { r with state := .busy }), (D, .deferred (some [])), (b23, .cells (#[(.slice a n cap)]) 30), (b9, .cells (#[.func (.func 140) #[] #[Ptr b6 0]]) 230), (b8, .cells (BV (crO key nonce (k + 1))) 22), (b7, .cells (BV (crC bs k)) 22), (b6, .cells (#[.slice s.1 (k * 16) s.2.1]) 30), (b4, .cells (BV nonce) 173), (b3, .cells (#[Ptr t 0]) 77)]) (i := 8) hS rfl hS1
            refine ⟨fun h => (by cases h), ?_⟩
            refine de (by kernel_rfl) ?_
            refine wqi_then ?_
            refine wci_region ?_
            refine wi rfl (la 7 ag22 hS rfl rfl rfl rfl (BV_size _) ?_)
            refine wi rfl (la 1 ag22 hS rfl rfl rfl rfl (BV_size _) ?_)
            refine wi rfl (cv cf143 hS rfl rfl rfl rfl rfl (sp_block_Xor ((crC bs k)) ((blk bs k)) _) ?_)
            intro w hS
            refine wi rfl (sa 7 ag22 hS rfl rfl rfl (BV_one _) rfl (BV_size _) (BV_size _) ?_)
            intro w hS
            refine q_block_norm ?_
            refine end_q 2 hS rfl hr hp (fun w hS => ?_)
            have e16 : k * 16 + 16 = (k + 1) * 16 := by omega
            rw [e16] at hS hO41
            exact ⟨rfl, _, ⟨(a41, c41, X41), hO41, rfl⟩, hS.tl.tl⟩
        · skip
          refine ala zr22 hS rfl rfl ?_
          intro b12 w hb12 hS
          refine ⟨fun _ => hS.tl, ?_⟩
          refine dl 6 rfl (by kernel_rfl) ?_
          refine cv cf71 hS rfl rfl rfl rfl rfl (sp_fast_Cipher_Encrypt (c) (_) (key) ((xorV (blk bs k) (crO key nonce (k + 1)))) _ (hS.old hC List.not_mem_nil)) ?_
          intro w hS
          refine ⟨fun _ => hS.tl, ?_⟩
          refine dl 7 rfl (by kernel_rfl) ?_
          refine cv (v := .agg (BV (crB key nonce bs k))) cf143 hS rfl rfl rfl rfl rfl (sp_block_Xor ((crO key nonce (k + 1))) ((enc key (xorV (blk bs k) (crO key nonce (k + 1))))) _) ?_
          intro w hS
          refine ⟨fun _ => hS.tl, ?_⟩
          refine dl 9 rfl (by kernel_rfl) ?_
          refine sa 0 ag22 hS rfl rfl rfl (BV_one _) rfl (BV_size _) (BV_size _) ?_
          intro w hS
          refine ⟨fun h => (by cases h), ?_⟩
          refine de (by kernel_rfl) ?_
          refine wqi_then ?_
          refine rdi mo (by kernel_rfl) 2 (fun w => St w0 [] ([(b12, .cells (BV (crB key nonce bs k)) 22), (b11, .cells (BV (blk bs k)) 22), (lp, .loop { r with state := .busy }), (D, .deferred (some [])), (b23, .cells (#[(.slice a n cap)]) 30), (b9, .cells (#[.func (.func 140) #[] #[Ptr b6 0]]) 230), (b8, .cells (BV (crO key nonce (k + 1))) 22), (b7, .cells (BV (crC bs k)) 22), (b6, .cells (#[.slice s.1 (k * 16) s.2.1]) 30), (b4, .cells (BV nonce) 173), (b3, .cells (#[Ptr t 0]) 77)] ++ (s.2.2 ++ [])) w) ?_
          have hS := hS.drew
          refine dq 0 rfl (by kernel_rfl) (by kernel_rfl) (by kernel_rfl) rfl rfl (fun w hS => lo 5 sc230 hS rfl rfl rfl rfl rfl ⟨rfl, rfl⟩) hS ?_
          refine dq 1 rfl (by kernel_rfl) (by kernel_rfl) (by kernel_rfl) rfl rfl (fun w hS => a_all Tryz.underlying22 ⟨_, sz5⟩ rfl rfl rfl ⟨rfl, rfl⟩) hS ?_
          refine dl 2 rfl (by kernel_rfl) ?_
          refine cl cf140 rfl rfl rfl rfl rfl (sp_seal_Crypt_1 (some ⟨b12, 0, none⟩) 16 16 ((crB key nonce bs k).toList) _ _ s.1 (k * 16) s.2.1 (crT key nonce bs k) s.2.2 _ Vector.length_toList (by omega) (Cel.bv (hS.get 0 rfl)) (hS.get 8 rfl) hO (fun p hp => (hS.own p (by simp [hp])).2) (St.nd (A := [(b12, .cells (BV (crB key nonce bs k)) 22), (b11, .cells (BV (blk bs k)) 22), (lp, .loop { r with state := .busy }), (D, .deferred (some [])), (b23, .cells (#[(.slice a n cap)]) 30), (b9, .cells (#[.func (.func 140) #[] #[Ptr b6 0]]) 230), (b8, .cells (BV (crO key nonce (k + 1))) 22), (b7, .cells (BV (crC bs k)) 22), (b6, .cells (#[.slice s.1 (k * 16) s.2.1]) 30), (b4, .cells (BV nonce) 173), (b3, .cells (#[Ptr t 0]) 77)]) (R := []) (i := 8) hS rfl)) ?_
          rintro _ w ⟨a41, c41, X41, ⟨v41, rfl⟩, hO41, hS1⟩
          refine ⟨_, rfl, ?_⟩
          have hS : St w0 [] ([(b12, .cells (BV (crB key nonce bs k)) 22), (b11, .cells (BV (blk bs k)) 22), (lp, .loop { r with state := .busy }), (D, .deferred (some [])), (b23, .cells (#[(.slice a n cap)]) 30), (b9, .cells (#[.func (.func 140) #[] #[Ptr b6 0]]) 230), (b8, .cells (BV (crO key nonce (k + 1))) 22), (b7, .cells (BV (crC bs k)) 22), (b6, .cells (#[.slice a41 ((k * 16) + 16) c41]) 30), (b4, .cells (BV nonce) 173), (b3, .cells (#[Ptr t 0]) 77)] ++ (X41 ++ [])) w := St.call_out (A := [(b12, .cells (BV (crB key nonce bs k)) 22), (b11, .cells (BV (blk bs k)) 22), (lp, .loop { r with state := .busy }), (D, .deferred (some [])), (b23, .cells (#[(.slice a n cap)]) 30), (b9, .cells (#[.func (.func 140) #[] #[Ptr b6 0]]) 230), (b8, .cells (BV (crO key nonce (k + 1))) 22), (b7, .cells (BV (crC bs k)) 22), (b6, .cells (#[.slice s.1 (k * 16) s.2.1]) 30), (b4, .cells (BV nonce) 173), (b3, .cells (#[Ptr t 0]) 77)]) (i := 8) hS rfl hS1
          refine ⟨fun h => (by cases h), ?_⟩
          refine de (by kernel_rfl) ?_
          refine wqi_then ?_
          refine wci_region ?_
          refine wi rfl (la 7 ag22 hS rfl rfl rfl rfl (BV_size _) ?_)
          refine wi rfl (la 1 ag22 hS rfl rfl rfl rfl (BV_size _) ?_)
          refine wi rfl (cv cf143 hS rfl rfl rfl rfl rfl (sp_block_Xor ((crC bs k)) ((blk bs k)) _) ?_)
          intro w hS
          refine wi rfl (sa 7 ag22 hS rfl rfl rfl (BV_one _) rfl (BV_size _) (BV_size _) ?_)
          intro w hS
          refine q_block_norm ?_
          refine end_q 2 hS rfl hr hp (fun w hS => ?_)
          have e16 : k * 16 + 16 = (k + 1) * 16 := by omega
          rw [e16] at hS hO41
          exact ⟨rfl, _, ⟨(a41, c41, X41), hO41, rfl⟩, hS.tl.tl⟩
      · skip
        refine ala zr22 hS rfl rfl ?_
        intro b12 w hb12 hS
        refine ⟨fun _ => hS.tl, ?_⟩
        refine dl 5 rfl (by kernel_rfl) ?_
        refine cv cf143 hS rfl rfl rfl rfl rfl (sp_block_Xor ((blk bs k)) ((crO key nonce (k + 1))) _) ?_
        intro w hS
        refine ⟨fun _ => hS.tl, ?_⟩
        refine dl 6 rfl (by kernel_rfl) ?_
        refine cv cf71 hS rfl rfl rfl rfl rfl (sp_fast_Cipher_Encrypt (c) (_) (key) ((xorV (blk bs k) (crO key nonce (k + 1)))) _ (hS.old hC List.not_mem_nil)) ?_
        intro w hS
        refine ⟨fun _ => hS.tl, ?_⟩
        refine dl 7 rfl (by kernel_rfl) ?_
        refine cv (v := .agg (BV (crB key nonce bs k))) cf143 hS rfl rfl rfl rfl rfl (sp_block_Xor ((crO key nonce (k + 1))) ((enc key (xorV (blk bs k) (crO key nonce (k + 1))))) _) ?_
        intro w hS
        refine ⟨fun _ => hS.tl, ?_⟩
        refine dl 9 rfl (by kernel_rfl) ?_
        refine sa 0 ag22 hS rfl rfl rfl (BV_one _) rfl (BV_size _) (BV_size _) ?_
        intro w hS
        refine ⟨fun h => (by cases h), ?_⟩
        refine de (by kernel_rfl) ?_
        refine wqi_then ?_
        refine rdi mo (by kernel_rfl) 2 (fun w => St w0 [] ([(b12, .cells (BV (crB key nonce bs k)) 22), (b11, .cells (BV (blk bs k)) 22), (lp, .loop { r with state := .busy }), (D, .deferred (some [])), (b23, .cells (#[(.slice a n cap)]) 30), (b9, .cells (#[.func (.func 140) #[] #[Ptr b6 0]]) 230), (b8, .cells (BV (crO key nonce (k + 1))) 22), (b7, .cells (BV (crC bs k)) 22), (b6, .cells (#[.slice s.1 (k * 16) s.2.1]) 30), (b4, .cells (BV nonce) 173), (b3, .cells (#[Ptr t 0]) 77)] ++ (s.2.2 ++ [])) w) ?_
        have hS := hS.drew
        refine dq 0 rfl (by kernel_rfl) (by kernel_rfl) (by kernel_rfl) rfl rfl (fun w hS => lo 5 sc230 hS rfl rfl rfl rfl rfl ⟨rfl, rfl⟩) hS ?_
        refine dq 1 rfl (by kernel_rfl) (by kernel_rfl) (by kernel_rfl) rfl rfl (fun w hS => a_all Tryz.underlying22 ⟨_, sz5⟩ rfl rfl rfl ⟨rfl, rfl⟩) hS ?_
        refine dl 2 rfl (by kernel_rfl) ?_
        refine cl cf140 rfl rfl rfl rfl rfl (sp_seal_Crypt_1 (some ⟨b12, 0, none⟩) 16 16 ((crB key nonce bs k).toList) _ _ s.1 (k * 16) s.2.1 (crT key nonce bs k) s.2.2 _ Vector.length_toList (by omega) (Cel.bv (hS.get 0 rfl)) (hS.get 8 rfl) hO (fun p hp => (hS.own p (by simp [hp])).2) (St.nd (A := [(b12, .cells (BV (crB key nonce bs k)) 22), (b11, .cells (BV (blk bs k)) 22), (lp, .loop { r with state := .busy }), (D, .deferred (some [])), (b23, .cells (#[(.slice a n cap)]) 30), (b9, .cells (#[.func (.func 140) #[] #[Ptr b6 0]]) 230), (b8, .cells (BV (crO key nonce (k + 1))) 22), (b7, .cells (BV (crC bs k)) 22), (b6, .cells (#[.slice s.1 (k * 16) s.2.1]) 30), (b4, .cells (BV nonce) 173), (b3, .cells (#[Ptr t 0]) 77)]) (R := []) (i := 8) hS rfl)) ?_
        rintro _ w ⟨a41, c41, X41, ⟨v41, rfl⟩, hO41, hS1⟩
        refine ⟨_, rfl, ?_⟩
        have hS : St w0 [] ([(b12, .cells (BV (crB key nonce bs k)) 22), (b11, .cells (BV (blk bs k)) 22), (lp, .loop { r with state := .busy }), (D, .deferred (some [])), (b23, .cells (#[(.slice a n cap)]) 30), (b9, .cells (#[.func (.func 140) #[] #[Ptr b6 0]]) 230), (b8, .cells (BV (crO key nonce (k + 1))) 22), (b7, .cells (BV (crC bs k)) 22), (b6, .cells (#[.slice a41 ((k * 16) + 16) c41]) 30), (b4, .cells (BV nonce) 173), (b3, .cells (#[Ptr t 0]) 77)] ++ (X41 ++ [])) w := St.call_out (A := [(b12, .cells (BV (crB key nonce bs k)) 22), (b11, .cells (BV (blk bs k)) 22), (lp, .loop { r with state := .busy }), (D, .deferred (some [])), (b23, .cells (#[(.slice a n cap)]) 30), (b9, .cells (#[.func (.func 140) #[] #[Ptr b6 0]]) 230), (b8, .cells (BV (crO key nonce (k + 1))) 22), (b7, .cells (BV (crC bs k)) 22), (b6, .cells (#[.slice s.1 (k * 16) s.2.1]) 30), (b4, .cells (BV nonce) 173), (b3, .cells (#[Ptr t 0]) 77)]) (i := 8) hS rfl hS1
        refine ⟨fun h => (by cases h), ?_⟩
        refine de (by kernel_rfl) ?_
        refine wqi_then ?_
        refine wci_region ?_
        refine wi rfl (la 7 ag22 hS rfl rfl rfl rfl (BV_size _) ?_)
        refine wi rfl (la 1 ag22 hS rfl rfl rfl rfl (BV_size _) ?_)
        refine wi rfl (cv cf143 hS rfl rfl rfl rfl rfl (sp_block_Xor ((crC bs k)) ((blk bs k)) _) ?_)
        intro w hS
        refine wi rfl (sa 7 ag22 hS rfl rfl rfl (BV_one _) rfl (BV_size _) (BV_size _) ?_)
        intro w hS
        refine q_block_norm ?_
        refine end_q 2 hS rfl hr hp (fun w hS => ?_)
        have e16 : k * 16 + 16 = (k + 1) * 16 := by omega
        rw [e16] at hS hO41
        exact ⟨rfl, _, ⟨(a41, c41, X41), hO41, rfl⟩, hS.tl.tl⟩
    · skip
      refine ala zr22 hS rfl rfl ?_
      intro b12 w hb12 hS
      refine ⟨fun _ => hS.tl, ?_⟩
      refine dl 2 rfl (by kernel_rfl) ?_
      refine cv cf144 hS rfl rfl rfl rfl rfl (sp_table_Table_Cipher (t) (c) (key) _ (hT.st hS)) ?_
      intro w hS
      refine ⟨fun _ => hS.tl, ?_⟩
      refine dl 5 rfl (by kernel_rfl) ?_
      refine cv cf143 hS rfl rfl rfl rfl rfl (sp_block_Xor ((blk bs k)) ((crO key nonce (k + 1))) _) ?_
      intro w hS
      refine ⟨fun _ => hS.tl, ?_⟩
      refine dl 6 rfl (by kernel_rfl) ?_
      refine cv cf71 hS rfl rfl rfl rfl rfl (sp_fast_Cipher_Encrypt (c) (_) (key) ((xorV (blk bs k) (crO key nonce (k + 1)))) _ (hS.old hC List.not_mem_nil)) ?_
      intro w hS
      refine ⟨fun _ => hS.tl, ?_⟩
      refine dl 7 rfl (by kernel_rfl) ?_
      refine cv (v := .agg (BV (crB key nonce bs k))) cf143 hS rfl rfl rfl rfl rfl (sp_block_Xor ((crO key nonce (k + 1))) ((enc key (xorV (blk bs k) (crO key nonce (k + 1))))) _) ?_
      intro w hS
      refine ⟨fun _ => hS.tl, ?_⟩
      refine dl 9 rfl (by kernel_rfl) ?_
      refine sa 0 ag22 hS rfl rfl rfl (BV_one _) rfl (BV_size _) (BV_size _) ?_
      intro w hS
      refine ⟨fun h => (by cases h), ?_⟩
      refine de (by kernel_rfl) ?_
      refine wqi_then ?_
      refine rdi mo (by kernel_rfl) 2 (fun w => St w0 [] ([(b12, .cells (BV (crB key nonce bs k)) 22), (b11, .cells (BV (blk bs k)) 22), (lp, .loop { r with state := .busy }), (D, .deferred (some [])), (b23, .cells (#[(.slice a n cap)]) 30), (b9, .cells (#[.func (.func 140) #[] #[Ptr b6 0]]) 230), (b8, .cells (BV (crO key nonce (k + 1))) 22), (b7, .cells (BV (crC bs k)) 22), (b6, .cells (#[.slice s.1 (k * 16) s.2.1]) 30), (b4, .cells (BV nonce) 173), (b3, .cells (#[Ptr t 0]) 77)] ++ (s.2.2 ++ [])) w) ?_
      have hS := hS.drew
      refine dq 0 rfl (by kernel_rfl) (by kernel_rfl) (by kernel_rfl) rfl rfl (fun w hS => lo 5 sc230 hS rfl rfl rfl rfl rfl ⟨rfl, rfl⟩) hS ?_
      refine dq 1 rfl (by kernel_rfl) (by kernel_rfl) (by kernel_rfl) rfl rfl (fun w hS => a_all Tryz.underlying22 ⟨_, sz5⟩ rfl rfl rfl ⟨rfl, rfl⟩) hS ?_
      refine dl 2 rfl (by kernel_rfl) ?_
      refine cl cf140 rfl rfl rfl rfl rfl (sp_seal_Crypt_1 (some ⟨b12, 0, none⟩) 16 16 ((crB key nonce bs k).toList) _ _ s.1 (k * 16) s.2.1 (crT key nonce bs k) s.2.2 _ Vector.length_toList (by omega) (Cel.bv (hS.get 0 rfl)) (hS.get 8 rfl) hO (fun p hp => (hS.own p (by simp [hp])).2) (St.nd (A := [(b12, .cells (BV (crB key nonce bs k)) 22), (b11, .cells (BV (blk bs k)) 22), (lp, .loop { r with state := .busy }), (D, .deferred (some [])), (b23, .cells (#[(.slice a n cap)]) 30), (b9, .cells (#[.func (.func 140) #[] #[Ptr b6 0]]) 230), (b8, .cells (BV (crO key nonce (k + 1))) 22), (b7, .cells (BV (crC bs k)) 22), (b6, .cells (#[.slice s.1 (k * 16) s.2.1]) 30), (b4, .cells (BV nonce) 173), (b3, .cells (#[Ptr t 0]) 77)]) (R := []) (i := 8) hS rfl)) ?_
      rintro _ w ⟨a41, c41, X41, ⟨v41, rfl⟩, hO41, hS1⟩
      refine ⟨_, rfl, ?_⟩
      have hS : St w0 [] ([(b12, .cells (BV (crB key nonce bs k)) 22), (b11, .cells (BV (blk bs k)) 22), (lp, .loop { r with state := .busy }), (D, .deferred (some [])), (b23, .cells (#[(.slice a n cap)]) 30), (b9, .cells (#[.func (.func 140) #[] #[Ptr b6 0]]) 230), (b8, .cells (BV (crO key nonce (k + 1))) 22), (b7, .cells (BV (crC bs k)) 22), (b6, .cells (#[.slice a41 ((k * 16) + 16) c41]) 30), (b4, .cells (BV nonce) 173), (b3, .cells (#[Ptr t 0]) 77)] ++ (X41 ++ [])) w := St.call_out (A := [(b12, .cells (BV (crB key nonce bs k)) 22), (b11, .cells (BV (blk bs k)) 22), (lp, .loop { r with state := .busy }), (D, .deferred (some [])), (b23, .cells (#[(.slice a n cap)]) 30), (b9, .cells (#[.func (.func 140) #[] #[Ptr b6 0]]) 230), (b8, .cells (BV (crO key nonce (k + 1))) 22), (b7, .cells (BV (crC bs k)) 22), (b6, .cells (#[.slice s.1 (k * 16) s.2.1]) 30), (b4, .cells (BV nonce) 173), (b3, .cells (#[Ptr t 0]) 77)]) (i := 8) hS rfl hS1
      refine ⟨fun h => (by cases h), ?_⟩
      refine de (by kernel_rfl) ?_
      refine wqi_then ?_
      refine wci_region ?_
      refine wi rfl (la 7 ag22 hS rfl rfl rfl rfl (BV_size _) ?_)
      refine wi rfl (la 1 ag22 hS rfl rfl rfl rfl (BV_size _) ?_)
      refine wi rfl (cv cf143 hS rfl rfl rfl rfl rfl (sp_block_Xor ((crC bs k)) ((blk bs k)) _) ?_)
      intro w hS
      refine wi rfl (sa 7 ag22 hS rfl rfl rfl (BV_one _) rfl (BV_size _) (BV_size _) ?_)
      intro w hS
      refine q_block_norm ?_
      refine end_q 2 hS rfl hr hp (fun w hS => ?_)
      have e16 : k * 16 + 16 = (k + 1) * 16 := by omega
      rw [e16] at hS hO41
      exact ⟨rfl, _, ⟨(a41, c41, X41), hO41, rfl⟩, hS.tl.tl⟩
  · rintro D _ w ⟨s, hO, rfl⟩ hS
    have hS : St w0 [] ([(D, .deferred (some [])), (b23, .cells (#[(.slice a n cap)]) 30), (b9, .cells (#[.func (.func 140) #[] #[Ptr b6 0]]) 230), (b8, .cells (BV (crO key nonce (n / 16))) 22), (b7, .cells (BV (crC bs (n / 16))) 22), (b6, .cells (#[.slice s.1 ((n / 16) * 16) s.2.1]) 30), (b4, .cells (BV nonce) 173), (b3, .cells (#[Ptr t 0]) 77)] ++ (s.2.2 ++ [])) w := hS
    refine q_block_norm ?_
    refine wq_then ?_
    refine rg ?_
    refine mv rfl rfl rfl ?_
    refine lo 5 sc30 hS rfl rfl rfl rfl rfl ?_
    refine lens Tryz.underlying30 rfl rfl rfl ?_
    refine s_l ((n / 16) * 16) Tryz.underlying30 sz5 rfl rfl rfl rfl (by omega) (by omega) ?_
    refine asg rfl rfl rfl ?_
    refine wq_then ?_
    refine wc_seq ?_
    refine rg ?_
    refine mv rfl rfl rfl ?_
    refine lens Tryz.underlying30 rfl rfl rfl ?_
    refine eqi rfl rfl rfl rfl ?_
    refine wq_then ?_
    refine wc_if rfl (fun hc1 => ?_) (fun hc1 => ?_)
    · skip
      try simp only [SB] at hc1
      have hz : n / 16 * 16 = n := by omega
      refine rd mo 5 (fun w => St w0 [] ([(D, .deferred (some [])), (b23, .cells (#[(.slice a n cap)]) 30), (b9, .cells (#[.func (.func 140) #[] #[Ptr b6 0]]) 230), (b8, .cells (BV (crO key nonce (n / 16))) 22), (b7, .cells (BV (crC bs (n / 16))) 22), (b6, .cells (#[.slice s.1 ((n / 16) * 16) s.2.1]) 30), (b4, .cells (BV nonce) 173), (b3, .cells (#[Ptr t 0]) 77)] ++ (s.2.2 ++ [])) w) ?_
      have hS := hS.drew
      refine dq 0 rfl (by kernel_rfl) (by kernel_rfl) (by kernel_rfl) rfl rfl (fun w hS => lo 5 sc30 hS rfl rfl rfl rfl rfl ⟨rfl, rfl⟩) hS ?_
      refine dq 1 rfl (by kernel_rfl) (by kernel_rfl) (by kernel_rfl) rfl rfl (fun w hS => la 4 ag22 hS rfl rfl rfl rfl (BV_size _) ⟨rfl, rfl⟩) hS ?_
      refine dq 2 rfl (by kernel_rfl) (by kernel_rfl) (by kernel_rfl) rfl rfl (fun w hS => la 3 ag22 hS rfl rfl rfl rfl (BV_size _) ⟨rfl, rfl⟩) hS ?_
      refine dl 3 rfl (by kernel_rfl) ?_
      refine st 5 sz30 hS rfl rfl rfl rfl rfl rfl Nat.zero_lt_one rfl ?_
      intro w hS
      refine ⟨fun _ => hS, ?_⟩
      refine dl 4 rfl (by kernel_rfl) ?_
      refine sa 4 ag22 hS rfl rfl rfl (BV_one _) rfl (BV_size _) (BV_size _) ?_
      intro w hS
      refine ⟨fun _ => hS, ?_⟩
      refine dl 5 rfl (by kernel_rfl) ?_
      refine sa 3 ag22 hS rfl rfl rfl (BV_one _) rfl (BV_size _) (BV_size _) ?_
      intro w hS
      refine ⟨fun h => (by cases h), ?_⟩
      refine de (by kernel_rfl) ?_
      refine wq_then ?_
      refine wc_ret ?_
      refine q_then_ret ?_
      refine finM3 (v := .slice s.1 ((n / 16) * 16) s.2.1) (u := .agg (BV (crC bs (n / 16)))) (x := .agg (BV (crO key nonce (n / 16)))) 0 hS rfl rfl rfl (fun w hS => ⟨_, rfl, lv_c sc30 (hS.get 5 rfl) rfl⟩) (fun w hS => ⟨_, rfl, lv_a ag22 (hS.get 4 rfl) (BV_size _)⟩) (fun w hS => ⟨_, rfl, lv_a ag22 (hS.get 3 rfl) (BV_size _)⟩) (fun w hS => ?_)
      exact ⟨_, _, rfl, ⟨_, _, cry_z1 hn hz, cry_z2 hn hz hO⟩, hS.sublist (.cons _ (.cons _ (.cons _ (.cons _ (.cons _ (.cons _ (.cons _ (.cons _ (List.sublist_append_left s.2.2 [])))))))))⟩
    · skip
      try simp only [SB] at hc1
      have hz : ¬ n / 16 * 16 = n := by omega
      refine wc_skip ?_
      refine wq_then ?_
      refine rd mo 4 (fun w => St w0 [] ([(D, .deferred (some [])), (b23, .cells (#[(.slice a n cap)]) 30), (b9, .cells (#[.func (.func 140) #[] #[Ptr b6 0]]) 230), (b8, .cells (BV (crO key nonce (n / 16))) 22), (b7, .cells (BV (crC bs (n / 16))) 22), (b6, .cells (#[.slice s.1 ((n / 16) * 16) s.2.1]) 30), (b4, .cells (BV nonce) 173), (b3, .cells (#[Ptr t 0]) 77)] ++ (s.2.2 ++ [])) w) ?_
      have hS := hS.drew
      refine dq 0 rfl (by kernel_rfl) (by kernel_rfl) (by kernel_rfl) rfl rfl (fun w hS => la 3 ag22 hS rfl rfl rfl rfl (BV_size _) ⟨rfl, rfl⟩) hS ?_
      refine dq 1 rfl (by kernel_rfl) (by kernel_rfl) (by kernel_rfl) rfl rfl (fun w hS => lo 7 sc77 hS rfl rfl rfl rfl rfl ⟨rfl, rfl⟩) hS ?_
      refine dl 2 rfl (by kernel_rfl) ?_
      refine cv cf145 hS rfl rfl rfl rfl rfl (sp_table_Table_Star (t) (c) (key) _ (hT.st hS)) ?_
      intro w hS
      refine ⟨fun _ => hS, ?_⟩
      refine dl 3 rfl (by kernel_rfl) ?_
      refine cv cf143 hS rfl rfl rfl rfl rfl (sp_block_Xor ((crO key nonce (n / 16))) ((star key)) _) ?_
      intro w hS
      refine ⟨fun _ => hS, ?_⟩
      refine dl 4 rfl (by kernel_rfl) ?_
      refine sa 3 ag22 hS rfl rfl rfl (BV_one _) rfl (BV_size _) (BV_size _) ?_
      intro w hS
      refine ⟨fun h => (by cases h), ?_⟩
      refine de (by kernel_rfl) ?_
      refine wq_then ?_
      refine rd mo 5 (fun w => St w0 [] ([(D, .deferred (some [])), (b23, .cells (#[(.slice a n cap)]) 30), (b9, .cells (#[.func (.func 140) #[] #[Ptr b6 0]]) 230), (b8, .cells (BV (xorV (crO key nonce (n / 16)) (star key))) 22), (b7, .cells (BV (crC bs (n / 16))) 22), (b6, .cells (#[.slice s.1 ((n / 16) * 16) s.2.1]) 30), (b4, .cells (BV nonce) 173), (b3, .cells (#[Ptr t 0]) 77)] ++ (s.2.2 ++ [])) w) ?_
      have hS := hS.drew
      refine dq 0 rfl (by kernel_rfl) (by kernel_rfl) (by kernel_rfl) rfl rfl (fun w hS => lo 7 sc77 hS rfl rfl rfl rfl rfl ⟨rfl, rfl⟩) hS ?_
      refine dq 2 rfl (by kernel_rfl) (by kernel_rfl) (by kernel_rfl) rfl rfl (fun w hS => la 3 ag22 hS rfl rfl rfl rfl (BV_size _) ⟨rfl, rfl⟩) hS ?_
      refine dl2 1 4 rfl rfl (by kernel_rfl) ?_ ?_
      · skip
        refine cv cf144 hS rfl rfl rfl rfl rfl (sp_table_Table_Cipher (t) (c) (key) _ (hT.st hS)) ?_
        intro w hS
        refine ⟨fun _ => hS, ?_⟩
        refine dl2 3 4 rfl rfl (by kernel_rfl) ?_ ?_
        · skip
          refine cv cf71 hS rfl rfl rfl rfl rfl (sp_fast_Cipher_Encrypt (c) (_) (key) ((xorV (crO key nonce (n / 16)) (star key))) _ (hS.old hC List.not_mem_nil)) ?_
          intro w hS
          refine ⟨fun _ => hS, ?_⟩
          refine dl 4 rfl (by kernel_rfl) ?_
          refine ala zr22 hS rfl rfl ?_
          intro b14 w hb14 hS
          refine ⟨fun _ => hS.tl, ?_⟩
          refine dl 5 rfl (by kernel_rfl) ?_
          refine sa 0 ag22 hS rfl rfl rfl (BV_one _) rfl (BV_size _) (BV_size _) ?_
          intro w hS
          refine ⟨fun h => (by cases h), ?_⟩
          refine de (by kernel_rfl) ?_
          refine wq_then ?_
          refine rg ?_
          refine mv rfl rfl rfl ?_
          refine cv cf146 hS rfl rfl rfl rfl rfl (sp_block_Pad ((sla a ((n / 16) * 16) cap)) ((n - ((n / 16) * 16))) ((cap - ((n / 16) * 16))) (((bs).drop ((n / 16) * 16))) _ (by first | rfl | omega | (simp; omega) | (simp; done)) (by omega) ((hc.st hS).drop8 (lo := (n / 16) * 16) (cap := cap) (by first | omega | (simp; omega) | simp)) (by omega)) ?_
          intro w hS
          refine mv rfl rfl rfl ?_
          refine ext rfl rfl rfl rfl ?_
          refine ext rfl rfl rfl rfl ?_
          refine ala zr22 hS rfl rfl ?_
          intro b15 w hb15 hS
          refine sa 0 ag22 hS rfl rfl rfl (BV_one _) rfl (BV_size _) (BV_size _) ?_
          intro w hS
          refine asg rfl rfl rfl ?_
          refine wq_then ?_
          refine rg ?_
          refine la 0 ag22 hS rfl rfl rfl rfl (BV_size _) ?_
          refine la 1 ag22 hS rfl rfl rfl rfl (BV_size _) ?_
          refine cv cf143 hS rfl rfl rfl rfl rfl (sp_block_Xor ((padV ((bs).drop ((n / 16) * 16)))) ((enc key (xorV (crO key nonce (n / 16)) (star key)))) _) ?_
          intro w hS
          refine ala zr22 hS rfl rfl ?_
          intro b17 w hb17 hS
          refine sa 0 ag22 hS rfl rfl rfl (BV_one _) rfl (BV_size _) (BV_size _) ?_
          intro w hS
          refine wq_then ?_
          refine rd mo 5 (fun w => St w0 [] [(b17, .cells (BV (xorV (padV ((bs).drop ((n / 16) * 16))) (enc key (xorV (crO key nonce (n / 16)) (star key))))) 22), (b15, .cells (BV (padV ((bs).drop ((n / 16) * 16)))) 22), (b14, .cells (BV (enc key (xorV (crO key nonce (n / 16)) (star key)))) 22), (D, .deferred (some [])), (b23, .cells (#[(.slice a n cap)]) 30), (b9, .cells (#[.func (.func 140) #[] #[Ptr b6 0]]) 230), (b8, .cells (BV (xorV (crO key nonce (n / 16)) (star key))) 22), (b7, .cells (BV (crC bs (n / 16))) 22), (b4, .cells (BV nonce) 173), (b3, .cells (#[Ptr t 0]) 77)] w) ?_
          have hS := hS.drew
          refine dq 0 rfl (by kernel_rfl) (by kernel_rfl) (by kernel_rfl) rfl rfl (fun w hS => lo 5 sc230 hS rfl rfl rfl rfl rfl ⟨rfl, rfl⟩) (hS.sublist (.cons_cons _ (.cons_cons _ (.cons_cons _ (.cons_cons _ (.cons_cons _ (.cons_cons _ (.cons_cons _ (.cons_cons _ (.cons _ (.cons_cons _ (.cons_cons _ (List.nil_sublist _))))))))))))) ?_
          refine dq 1 rfl (by kernel_rfl) (by kernel_rfl) (by kernel_rfl) rfl rfl (fun w hS => mv rfl rfl rfl ⟨rfl, rfl⟩) (hS.sublist (.cons_cons _ (.cons_cons _ (.cons_cons _ (.cons_cons _ (.cons_cons _ (.cons_cons _ (.cons_cons _ (.cons_cons _ (.cons _ (.cons_cons _ (.cons_cons _ (List.nil_sublist _))))))))))))) ?_
          refine dq 2 rfl (by kernel_rfl) (by kernel_rfl) (by kernel_rfl) rfl rfl (fun w hS => lens Tryz.underlying30 rfl rfl rfl ⟨rfl, rfl⟩) (hS.sublist (.cons_cons _ (.cons_cons _ (.cons_cons _ (.cons_cons _ (.cons_cons _ (.cons_cons _ (.cons_cons _ (.cons_cons _ (.cons _ (.cons_cons _ (.cons_cons _ (List.nil_sublist _))))))))))))) ?_
          refine dq 3 rfl (by kernel_rfl) (by kernel_rfl) (by kernel_rfl) rfl rfl (fun w hS => a_h (n - ((n / 16) * 16)) Tryz.underlying22 ⟨_, sz5⟩ rfl rfl rfl rfl (by omega) (by omega) ⟨rfl, rfl⟩) (hS.sublist (.cons_cons _ (.cons_cons _ (.cons_cons _ (.cons_cons _ (.cons_cons _ (.cons_cons _ (.cons_cons _ (.cons_cons _ (.cons _ (.cons_cons _ (.cons_cons _ (List.nil_sublist _))))))))))))) ?_
          refine dl 4 rfl (by kernel_rfl) ?_
          refine cl cf140 rfl rfl rfl rfl rfl (sp_seal_Crypt_1 (some ⟨b17, 0, none⟩) (n - ((n / 16) * 16)) 16 (((xorV (padV ((bs).drop ((n / 16) * 16))) (enc key (xorV (crO key nonce (n / 16)) (star key)))).toList).take (n - ((n / 16) * 16))) _ _ s.1 ((n / 16) * 16) s.2.1 (crT key nonce bs (n / 16)) s.2.2 _ (by simp; omega) (by omega) ((Cel.bv (hS.get 0 rfl)).take8 (n - ((n / 16) * 16))) (hS.get 8 rfl) hO (fun p hp => (hS.own p (by simp [hp])).2) (St.nd (A := [(b17, .cells (BV (xorV (padV ((bs).drop ((n / 16) * 16))) (enc key (xorV (crO key nonce (n / 16)) (star key))))) 22), (b15, .cells (BV (padV ((bs).drop ((n / 16) * 16)))) 22), (b14, .cells (BV (enc key (xorV (crO key nonce (n / 16)) (star key)))) 22), (D, .deferred (some [])), (b23, .cells (#[(.slice a n cap)]) 30), (b9, .cells (#[.func (.func 140) #[] #[Ptr b6 0]]) 230), (b8, .cells (BV (xorV (crO key nonce (n / 16)) (star key))) 22), (b7, .cells (BV (crC bs (n / 16))) 22), (b6, .cells (#[.slice s.1 ((n / 16) * 16) s.2.1]) 30), (b4, .cells (BV nonce) 173), (b3, .cells (#[Ptr t 0]) 77)]) (R := []) (i := 8) hS rfl)) ?_
          rintro _ w ⟨a75, c75, X75, ⟨v75, rfl⟩, hO75, hS1⟩
          refine ⟨_, rfl, ?_⟩
          have hS : St w0 [] ([(b17, .cells (BV (xorV (padV ((bs).drop ((n / 16) * 16))) (enc key (xorV (crO key nonce (n / 16)) (star key))))) 22), (b15, .cells (BV (padV ((bs).drop ((n / 16) * 16)))) 22), (b14, .cells (BV (enc key (xorV (crO key nonce (n / 16)) (star key)))) 22), (D, .deferred (some [])), (b23, .cells (#[(.slice a n cap)]) 30), (b9, .cells (#[.func (.func 140) #[] #[Ptr b6 0]]) 230), (b8, .cells (BV (xorV (crO key nonce (n / 16)) (star key))) 22), (b7, .cells (BV (crC bs (n / 16))) 22), (b6, .cells (#[.slice a75 (((n / 16) * 16) + (n - ((n / 16) * 16))) c75]) 30), (b4, .cells (BV nonce) 173), (b3, .cells (#[Ptr t 0]) 77)] ++ (X75 ++ [])) w := St.call_out (A := [(b17, .cells (BV (xorV (padV ((bs).drop ((n / 16) * 16))) (enc key (xorV (crO key nonce (n / 16)) (star key))))) 22), (b15, .cells (BV (padV ((bs).drop ((n / 16) * 16)))) 22), (b14, .cells (BV (enc key (xorV (crO key nonce (n / 16)) (star key)))) 22), (D, .deferred (some [])), (b23, .cells (#[(.slice a n cap)]) 30), (b9, .cells (#[.func (.func 140) #[] #[Ptr b6 0]]) 230), (b8, .cells (BV (xorV (crO key nonce (n / 16)) (star key))) 22), (b7, .cells (BV (crC bs (n / 16))) 22), (b6, .cells (#[.slice s.1 ((n / 16) * 16) s.2.1]) 30), (b4, .cells (BV nonce) 173), (b3, .cells (#[Ptr t 0]) 77)]) (i := 8) hS rfl hS1
          refine ⟨fun _ => (hS.sublist (.cons_cons _ (.cons_cons _ (.cons_cons _ (.cons_cons _ (.cons_cons _ (.cons_cons _ (.cons_cons _ (.cons_cons _ (.cons _ (.cons_cons _ (.cons_cons _ (List.nil_sublist _))))))))))))), ?_⟩
          refine de (by kernel_rfl) ?_
          refine wq_then ?_
          refine rd mo 7 (fun w => St w0 [] [(b17, .cells (BV (xorV (padV ((bs).drop ((n / 16) * 16))) (enc key (xorV (crO key nonce (n / 16)) (star key))))) 22), (b15, .cells (BV (padV ((bs).drop ((n / 16) * 16)))) 22), (b14, .cells (BV (enc key (xorV (crO key nonce (n / 16)) (star key)))) 22), (D, .deferred (some [])), (b23, .cells (#[(.slice a n cap)]) 30), (b9, .cells (#[.func (.func 140) #[] #[Ptr b6 0]]) 230), (b8, .cells (BV (xorV (crO key nonce (n / 16)) (star key))) 22), (b6, .cells (#[.slice a75 (((n / 16) * 16) + (n - ((n / 16) * 16))) c75]) 30), (b4, .cells (BV nonce) 173), (b3, .cells (#[Ptr t 0]) 77)] w) ?_
          have hS := hS.drew
          refine dq 0 rfl (by kernel_rfl) (by kernel_rfl) (by kernel_rfl) rfl rfl (fun w hS => lo 7 sc30 hS rfl rfl rfl rfl rfl ⟨rfl, rfl⟩) (hS.sublist (.cons_cons _ (.cons_cons _ (.cons_cons _ (.cons_cons _ (.cons_cons _ (.cons_cons _ (.cons_cons _ (.cons _ (.cons_cons _ (.cons_cons _ (.cons_cons _ (List.nil_sublist _))))))))))))) ?_
          refine dq 2 rfl (by kernel_rfl) (by kernel_rfl) (by kernel_rfl) rfl rfl (fun w hS => la 1 ag22 hS rfl rfl rfl rfl (BV_size _) ⟨rfl, rfl⟩) (hS.sublist (.cons_cons _ (.cons_cons _ (.cons_cons _ (.cons_cons _ (.cons_cons _ (.cons_cons _ (.cons_cons _ (.cons _ (.cons_cons _ (.cons_cons _ (.cons_cons _ (List.nil_sublist _))))))))))))) ?_
          refine dq 4 rfl (by kernel_rfl) (by kernel_rfl) (by kernel_rfl) rfl rfl (fun w hS => la 6 ag22 hS rfl rfl rfl rfl (BV_size _) ⟨rfl, rfl⟩) (hS.sublist (.cons_cons _ (.cons_cons _ (.cons_cons _ (.cons_cons _ (.cons_cons _ (.cons_cons _ (.cons_cons _ (.cons _ (.cons_cons _ (.cons_cons _ (.cons_cons _ (List.nil_sublist _))))))))))))) ?_
          refine dl 1 rfl (by kernel_rfl) ?_
          refine la 7 ag22 hS rfl rfl rfl rfl (BV_size _) ?_
          refine ⟨fun _ => (hS.sublist (.cons_cons _ (.cons_cons _ (.cons_cons _ (.cons_cons _ (.cons_cons _ (.cons_cons _ (.cons_cons _ (.cons _ (.cons_cons _ (.cons_cons _ (.cons_cons _ (List.nil_sublist _))))))))))))), ?_⟩
          refine dl 3 rfl (by kernel_rfl) ?_
          refine cv cf143 hS rfl rfl rfl rfl rfl (sp_block_Xor ((crC bs (n / 16))) ((padV ((bs).drop ((n / 16) * 16)))) _) ?_
          intro w hS
          refine ⟨fun _ => (hS.sublist (.cons_cons _ (.cons_cons _ (.cons_cons _ (.cons_cons _ (.cons_cons _ (.cons_cons _ (.cons_cons _ (.cons _ (.cons_cons _ (.cons_cons _ (.cons_cons _ (List.nil_sublist _))))))))))))), ?_⟩
          refine dl 5 rfl (by kernel_rfl) ?_
          refine st 8 sz30 hS rfl rfl rfl rfl rfl rfl Nat.zero_lt_one rfl ?_
          intro w hS
          refine ⟨fun _ => (hS.sublist (.cons_cons _ (.cons_cons _ (.cons_cons _ (.cons_cons _ (.cons_cons _ (.cons_cons _ (.cons_cons _ (.cons _ (.cons_cons _ (.cons_cons _ (.cons_cons _ (List.nil_sublist _))))))))))))), ?_⟩
          refine dl 6 rfl (by kernel_rfl) ?_
          refine sa 7 ag22 hS rfl rfl rfl (BV_one _) rfl (BV_size _) (BV_size _) ?_
          intro w hS
          refine ⟨fun _ => (hS.sublist (.cons_cons _ (.cons_cons _ (.cons_cons _ (.cons_cons _ (.cons_cons _ (.cons_cons _ (.cons_cons _ (.cons _ (.cons_cons _ (.cons_cons _ (.cons_cons _ (List.nil_sublist _))))))))))))), ?_⟩
          refine dl 7 rfl (by kernel_rfl) ?_
          refine sa 6 ag22 hS rfl rfl rfl (BV_one _) rfl (BV_size _) (BV_size _) ?_
          intro w hS
          refine ⟨fun h => (by cases h), ?_⟩
          refine de (by kernel_rfl) ?_
          refine wq_then ?_
          refine wc_ret ?_
          refine finM3 (v := .slice a75 (((n / 16) * 16) + (n - ((n / 16) * 16))) c75) (u := .agg (BV (xorV (crC bs (n / 16)) (padV ((bs).drop ((n / 16) * 16)))))) (x := .agg (BV (xorV (crO key nonce (n / 16)) (star key)))) 3 hS rfl rfl rfl (fun w hS => ⟨_, rfl, lv_c sc30 (hS.get 8 rfl) rfl⟩) (fun w hS => ⟨_, rfl, lv_a ag22 (hS.get 7 rfl) (BV_size _)⟩) (fun w hS => ⟨_, rfl, lv_a ag22 (hS.get 6 rfl) (BV_size _)⟩) (fun w hS => ?_)
          exact ⟨_, _, rfl, ⟨_, _, cry_r1 hn hz _ (by omega), cry_r2 hn hz _ (by omega) hO75⟩, hS.sublist (.cons _ (.cons _ (.cons _ (.cons _ (.cons _ (.cons _ (.cons _ (.cons _ (.cons _ (.cons _ (.cons _ (List.sublist_append_left X75 []))))))))))))⟩
        · skip
          refine ala zr22 hS rfl rfl ?_
          intro b14 w hb14 hS
          refine ⟨fun _ => hS.tl, ?_⟩
          refine dl 3 rfl (by kernel_rfl) ?_
          refine cv cf71 hS rfl rfl rfl rfl rfl (sp_fast_Cipher_Encrypt (c) (_) (key) ((xorV (crO key nonce (n / 16)) (star key))) _ (hS.old hC List.not_mem_nil)) ?_
          intro w hS
          refine ⟨fun _ => hS.tl, ?_⟩
          refine dl 5 rfl (by kernel_rfl) ?_
          refine sa 0 ag22 hS rfl rfl rfl (BV_one _) rfl (BV_size _) (BV_size _) ?_
          intro w hS
          refine ⟨fun h => (by cases h), ?_⟩
          refine de (by kernel_rfl) ?_
          refine wq_then ?_
          refine rg ?_
          refine mv rfl rfl rfl ?_
          refine cv cf146 hS rfl rfl rfl rfl rfl (sp_block_Pad ((sla a ((n / 16) * 16) cap)) ((n - ((n / 16) * 16))) ((cap - ((n / 16) * 16))) (((bs).drop ((n / 16) * 16))) _ (by first | rfl | omega | (simp; omega) | (simp; done)) (by omega) ((hc.st hS).drop8 (lo := (n / 16) * 16) (cap := cap) (by first | omega | (simp; omega) | simp)) (by omega)) ?_
          intro w hS
          refine mv rfl rfl rfl ?_
          refine ext rfl rfl rfl rfl ?_
          refine ext rfl rfl rfl rfl ?_
          refine ala zr22 hS rfl rfl ?_
          intro b15 w hb15 hS
          refine sa 0 ag22 hS rfl rfl rfl (BV_one _) rfl (BV_size _) (BV_size _) ?_
          intro w hS
          refine asg rfl rfl rfl ?_
          refine wq_then ?_
          refine rg ?_
          refine la 0 ag22 hS rfl rfl rfl rfl (BV_size _) ?_
          refine la 1 ag22 hS rfl rfl rfl rfl (BV_size _) ?_
          refine cv cf143 hS rfl rfl rfl rfl rfl (sp_block_Xor ((padV ((bs).drop ((n / 16) * 16)))) ((enc key (xorV (crO key nonce (n / 16)) (star key)))) _) ?_
          intro w hS
          refine ala zr22 hS rfl rfl ?_
          intro b17 w hb17 hS
          refine sa 0 ag22 hS rfl rfl rfl (BV_one _) rfl (BV_size _) (BV_size _) ?_
          intro w hS
          refine wq_then ?_
          refine rd mo 5 (fun w => St w0 [] [(b17, .cells (BV (xorV (padV ((bs).drop ((n / 16) * 16))) (enc key (xorV (crO key nonce (n / 16)) (star key))))) 22), (b15, .cells (BV (padV ((bs).drop ((n / 16) * 16)))) 22), (b14, .cells (BV (enc key (xorV (crO key nonce (n / 16)) (star key)))) 22), (D, .deferred (some [])), (b23, .cells (#[(.slice a n cap)]) 30), (b9, .cells (#[.func (.func 140) #[] #[Ptr b6 0]]) 230), (b8, .cells (BV (xorV (crO key nonce (n / 16)) (star key))) 22), (b7, .cells (BV (crC bs (n / 16))) 22), (b4, .cells (BV nonce) 173), (b3, .cells (#[Ptr t 0]) 77)] w) ?_
          have hS := hS.drew
          refine dq 0 rfl (by kernel_rfl) (by kernel_rfl) (by kernel_rfl) rfl rfl (fun w hS => lo 5 sc230 hS rfl rfl rfl rfl rfl ⟨rfl, rfl⟩) (hS.sublist (.cons_cons _ (.cons_cons _ (.cons_cons _ (.cons_cons _ (.cons_cons _ (.cons_cons _ (.cons_cons _ (.cons_cons _ (.cons _ (.cons_cons _ (.cons_cons _ (List.nil_sublist _))))))))))))) ?_
          refine dq 1 rfl (by kernel_rfl) (by kernel_rfl) (by kernel_rfl) rfl rfl (fun w hS => mv rfl rfl rfl ⟨rfl, rfl⟩) (hS.sublist (.cons_cons _ (.cons_cons _ (.cons_cons _ (.cons_cons _ (.cons_cons _ (.cons_cons _ (.cons_cons _ (.cons_cons _ (.cons _ (.cons_cons _ (.cons_cons _ (List.nil_sublist _))))))))))))) ?_
          refine dq 2 rfl (by kernel_rfl) (by kernel_rfl) (by kernel_rfl) rfl rfl (fun w hS => lens Tryz.underlying30 rfl rfl rfl ⟨rfl, rfl⟩) (hS.sublist (.cons_cons _ (.cons_cons _ (.cons_cons _ (.cons_cons _ (.cons_cons _ (.cons_cons _ (.cons_cons _ (.cons_cons _ (.cons _ (.cons_cons _ (.cons_cons _ (List.nil_sublist _))))))))))))) ?_
          refine dq 3 rfl (by kernel_rfl) (by kernel_rfl) (by kernel_rfl) rfl rfl (fun w hS => a_h (n - ((n / 16) * 16)) Tryz.underlying22 ⟨_, sz5⟩ rfl rfl rfl rfl (by omega) (by omega) ⟨rfl, rfl⟩) (hS.sublist (.cons_cons _ (.cons_cons _ (.cons_cons _ (.cons_cons _ (.cons_cons _ (.cons_cons _ (.cons_cons _ (.cons_cons _ (.cons _ (.cons_cons _ (.cons_cons _ (List.nil_sublist _))))))))))))) ?_
          refine dl 4 rfl (by kernel_rfl) ?_
          refine cl cf140 rfl rfl rfl rfl rfl (sp_seal_Crypt_1 (some ⟨b17, 0, none⟩) (n - ((n / 16) * 16)) 16 (((xorV (padV ((bs).drop ((n / 16) * 16))) (enc key (xorV (crO key nonce (n / 16)) (star key)))).toList).take (n - ((n / 16) * 16))) _ _ s.1 ((n / 16) * 16) s.2.1 (crT key nonce bs (n / 16)) s.2.2 _ (by simp; omega) (by omega) ((Cel.bv (hS.get 0 rfl)).take8 (n - ((n / 16) * 16))) (hS.get 8 rfl) hO (fun p hp => (hS.own p (by simp [hp])).2) (St.nd (A := [(b17, .cells (BV (xorV (padV ((bs).drop ((n / 16) * 16))) (enc key (xorV (crO key nonce (n / 16)) (star key))))) 22), (b15, .cells (BV (padV ((bs).drop ((n / 16) * 16)))) 22), (b14, .cells (BV (enc key (xorV (crO key nonce (n / 16)) (star key)))) 22), (D, .deferred (some [])), (b23, .cells (#[(.slice a n cap)]) 30), (b9, .cells (#[.func (.func 140) #[] #[Ptr b6 0]]) 230), (b8, .cells (BV (xorV (crO key nonce (n / 16)) (star key))) 22), (b7, .cells (BV (crC bs (n / 16))) 22), (b6, .cells (#[.slice s.1 ((n / 16) * 16) s.2.1]) 30), (b4, .cells (BV nonce) 173), (b3, .cells (#[Ptr t 0]) 77)]) (R := []) (i := 8) hS rfl)) ?_
          rintro _ w ⟨a75, c75, X75, ⟨v75, rfl⟩, hO75, hS1⟩
          refine ⟨_, rfl, ?_⟩
          have hS : St w0 [] ([(b17, .cells (BV (xorV (padV ((bs).drop ((n / 16) * 16))) (enc key (xorV (crO key nonce (n / 16)) (star key))))) 22), (b15, .cells (BV (padV ((bs).drop ((n / 16) * 16)))) 22), (b14, .cells (BV (enc key (xorV (crO key nonce (n / 16)) (star key)))) 22), (D, .deferred (some [])), (b23, .cells (#[(.slice a n cap)]) 30), (b9, .cells (#[.func (.func 140) #[] #[Ptr b6 0]]) 230), (b8, .cells (BV (xorV (crO key nonce (n / 16)) (star key))) 22), (b7, .cells (BV (crC bs (n / 16))) 22), (b6, .cells (#[.slice a75 (((n / 16) * 16) + (n - ((n / 16) * 16))) c75]) 30), (b4, .cells (BV nonce) 173), (b3, .cells (#[Ptr t 0]) 77)] ++ (X75 ++ [])) w := St.call_out (A := [(b17, .cells (BV (xorV (padV ((bs).drop ((n / 16) * 16))) (enc key (xorV (crO key nonce (n / 16)) (star key))))) 22), (b15, .cells (BV (padV ((bs).drop ((n / 16) * 16)))) 22), (b14, .cells (BV (enc key (xorV (crO key nonce (n / 16)) (star key)))) 22), (D, .deferred (some [])), (b23, .cells (#[(.slice a n cap)]) 30), (b9, .cells (#[.func (.func 140) #[] #[Ptr b6 0]]) 230), (b8, .cells (BV (xorV (crO key nonce (n / 16)) (star key))) 22), (b7, .cells (BV (crC bs (n / 16))) 22), (b6, .cells (#[.slice s.1 ((n / 16) * 16) s.2.1]) 30), (b4, .cells (BV nonce) 173), (b3, .cells (#[Ptr t 0]) 77)]) (i := 8) hS rfl hS1
          refine ⟨fun _ => (hS.sublist (.cons_cons _ (.cons_cons _ (.cons_cons _ (.cons_cons _ (.cons_cons _ (.cons_cons _ (.cons_cons _ (.cons_cons _ (.cons _ (.cons_cons _ (.cons_cons _ (List.nil_sublist _))))))))))))), ?_⟩
          refine de (by kernel_rfl) ?_
          refine wq_then ?_
          refine rd mo 7 (fun w => St w0 [] [(b17, .cells (BV (xorV (padV ((bs).drop ((n / 16) * 16))) (enc key (xorV (crO key nonce (n / 16)) (star key))))) 22), (b15, .cells (BV (padV ((bs).drop ((n / 16) * 16)))) 22), (b14, .cells (BV (enc key (xorV (crO key nonce (n / 16)) (star key)))) 22), (D, .deferred (some [])), (b23, .cells (#[(.slice a n cap)]) 30), (b9, .cells (#[.func (.func 140) #[] #[Ptr b6 0]]) 230), (b8, .cells (BV (xorV (crO key nonce (n / 16)) (star key))) 22), (b6, .cells (#[.slice a75 (((n / 16) * 16) + (n - ((n / 16) * 16))) c75]) 30), (b4, .cells (BV nonce) 173), (b3, .cells (#[Ptr t 0]) 77)] w) ?_
          have hS := hS.drew
          refine dq 0 rfl (by kernel_rfl) (by kernel_rfl) (by kernel_rfl) rfl rfl (fun w hS => lo 7 sc30 hS rfl rfl rfl rfl rfl ⟨rfl, rfl⟩) (hS.sublist (.cons_cons _ (.cons_cons _ (.cons_cons _ (.cons_cons _ (.cons_cons _ (.cons_cons _ (.cons_cons _ (.cons _ (.cons_cons _ (.cons_cons _ (.cons_cons _ (List.nil_sublist _))))))))))))) ?_
          refine dq 2 rfl (by kernel_rfl) (by kernel_rfl) (by kernel_rfl) rfl rfl (fun w hS => la 1 ag22 hS rfl rfl rfl rfl (BV_size _) ⟨rfl, rfl⟩) (hS.sublist (.cons_cons _ (.cons_cons _ (.cons_cons _ (.cons_cons _ (.cons_cons _ (.cons_cons _ (.cons_cons _ (.cons _ (.cons_cons _ (.cons_cons _ (.cons_cons _ (List.nil_sublist _))))))))))))) ?_
          refine dq 4 rfl (by kernel_rfl) (by kernel_rfl) (by kernel_rfl) rfl rfl (fun w hS => la 6 ag22 hS rfl rfl rfl rfl (BV_size _) ⟨rfl, rfl⟩) (hS.sublist (.cons_cons _ (.cons_cons _ (.cons_cons _ (.cons_cons _ (.cons_cons _ (.cons_cons _ (.cons_cons _ (.cons _ (.cons_cons _ (.cons_cons _ (.cons_cons _ (List.nil_sublist _))))))))))))) ?_
          refine dl 1 rfl (by kernel_rfl) ?_
          refine la 7 ag22 hS rfl rfl rfl rfl (BV_size _) ?_
          refine ⟨fun _ => (hS.sublist (.cons_cons _ (.cons_cons _ (.cons_cons _ (.cons_cons _ (.cons_cons _ (.cons_cons _ (.cons_cons _ (.cons _ (.cons_cons _ (.cons_cons _ (.cons_cons _ (List.nil_sublist _))))))))))))), ?_⟩
          refine dl 3 rfl (by kernel_rfl) ?_
          refine cv cf143 hS rfl rfl rfl rfl rfl (sp_block_Xor ((crC bs (n / 16))) ((padV ((bs).drop ((n / 16) * 16)))) _) ?_
          intro w hS
          refine ⟨fun _ => (hS.sublist (.cons_cons _ (.cons_cons _ (.cons_cons _ (.cons_cons _ (.cons_cons _ (.cons_cons _ (.cons_cons _ (.cons _ (.cons_cons _ (.cons_cons _ (.cons_cons _ (List.nil_sublist _))))))))))))), ?_⟩
          refine dl 5 rfl (by kernel_rfl) ?_
          refine st 8 sz30 hS rfl rfl rfl rfl rfl rfl Nat.zero_lt_one rfl ?_
          intro w hS
          refine ⟨fun _ => (hS.sublist (.cons_cons _ (.cons_cons _ (.cons_cons _ (.cons_cons _ (.cons_cons _ (.cons_cons _ (.cons_cons _ (.cons _ (.cons_cons _ (.cons_cons _ (.cons_cons _ (List.nil_sublist _))))))))))))), ?_⟩
          refine dl 6 rfl (by kernel_rfl) ?_
          refine sa 7 ag22 hS rfl rfl rfl (BV_one _) rfl (BV_size _) (BV_size _) ?_
          intro w hS
          refine ⟨fun _ => (hS.sublist (.cons_cons _ (.cons_cons _ (.cons_cons _ (.cons_cons _ (.cons_cons _ (.cons_cons _ (.cons_cons _ (.cons _ (.cons_cons _ (.cons_cons _ (.cons_cons _ (List.nil_sublist _))))))))))))), ?_⟩
          refine dl 7 rfl (by kernel_rfl) ?_
          refine sa 6 ag22 hS rfl rfl rfl (BV_one _) rfl (BV_size _) (BV_size _) ?_
          intro w hS
          refine ⟨fun h => (by cases h), ?_⟩
          refine de (by kernel_rfl) ?_
          refine wq_then ?_
          refine wc_ret ?_
          refine finM3 (v := .slice a75 (((n / 16) * 16) + (n - ((n / 16) * 16))) c75) (u := .agg (BV (xorV (crC bs (n / 16)) (padV ((bs).drop ((n / 16) * 16)))))) (x := .agg (BV (xorV (crO key nonce (n / 16)) (star key)))) 3 hS rfl rfl rfl (fun w hS => ⟨_, rfl, lv_c sc30 (hS.get 8 rfl) rfl⟩) (fun w hS => ⟨_, rfl, lv_a ag22 (hS.get 7 rfl) (BV_size _)⟩) (fun w hS => ⟨_, rfl, lv_a ag22 (hS.get 6 rfl) (BV_size _)⟩) (fun w hS => ?_)
          exact ⟨_, _, rfl, ⟨_, _, cry_r1 hn hz _ (by omega), cry_r2 hn hz _ (by omega) hO75⟩, hS.sublist (.cons _ (.cons _ (.cons _ (.cons _ (.cons _ (.cons _ (.cons _ (.cons _ (.cons _ (.cons _ (.cons _ (List.sublist_append_left X75 []))))))))))))⟩
      · skip
        refine ala zr22 hS rfl rfl ?_
        intro b14 w hb14 hS
        refine ⟨fun _ => hS.tl, ?_⟩
        refine dl 1 rfl (by kernel_rfl) ?_
        refine cv cf144 hS rfl rfl rfl rfl rfl (sp_table_Table_Cipher (t) (c) (key) _ (hT.st hS)) ?_
        intro w hS
        refine ⟨fun _ => hS.tl, ?_⟩
        refine dl 3 rfl (by kernel_rfl) ?_
        refine cv cf71 hS rfl rfl rfl rfl rfl (sp_fast_Cipher_Encrypt (c) (_) (key) ((xorV (crO key nonce (n / 16)) (star key))) _ (hS.old hC List.not_mem_nil)) ?_
        intro w hS
        refine ⟨fun _ => hS.tl, ?_⟩
        refine dl 5 rfl (by kernel_rfl) ?_
        refine sa 0 ag22 hS rfl rfl rfl (BV_one _) rfl (BV_size _) (BV_size _) ?_
        intro w hS
        refine ⟨fun h => (by cases h), ?_⟩
        refine de (by kernel_rfl) ?_
        refine wq_then ?_
        refine rg ?_
        refine mv rfl rfl rfl ?_
        refine cv cf146 hS rfl rfl rfl rfl rfl (sp_block_Pad ((sla a ((n / 16) * 16) cap)) ((n - ((n / 16) * 16))) ((cap - ((n / 16) * 16))) (((bs).drop ((n / 16) * 16))) _ (by first | rfl | omega | (simp; omega) | (simp; done)) (by omega) ((hc.st hS).drop8 (lo := (n / 16) * 16) (cap := cap) (by first | omega | (simp; omega) | simp)) (by omega)) ?_
        intro w hS
        refine mv rfl rfl rfl ?_
        refine ext rfl rfl rfl rfl ?_
        refine ext rfl rfl rfl rfl ?_
        refine ala zr22 hS rfl rfl ?_
        intro b15 w hb15 hS
        refine sa 0 ag22 hS rfl rfl rfl (BV_one _) rfl (BV_size _) (BV_size _) ?_
        intro w hS
        refine asg rfl rfl rfl ?_
        refine wq_then ?_
        refine rg ?_
        refine la 0 ag22 hS rfl rfl rfl rfl (BV_size _) ?_
        refine la 1 ag22 hS rfl rfl rfl rfl (BV_size _) ?_
        refine cv cf143 hS rfl rfl rfl rfl rfl (sp_block_Xor ((padV ((bs).drop ((n / 16) * 16)))) ((enc key (xorV (crO key nonce (n / 16)) (star key)))) _) ?_
        intro w hS
        refine ala zr22 hS rfl rfl ?_
        intro b17 w hb17 hS
        refine sa 0 ag22 hS rfl rfl rfl (BV_one _) rfl (BV_size _) (BV_size _) ?_
        intro w hS
        refine wq_then ?_
        refine rd mo 5 (fun w => St w0 [] [(b17, .cells (BV (xorV (padV ((bs).drop ((n / 16) * 16))) (enc key (xorV (crO key nonce (n / 16)) (star key))))) 22), (b15, .cells (BV (padV ((bs).drop ((n / 16) * 16)))) 22), (b14, .cells (BV (enc key (xorV (crO key nonce (n / 16)) (star key)))) 22), (D, .deferred (some [])), (b23, .cells (#[(.slice a n cap)]) 30), (b9, .cells (#[.func (.func 140) #[] #[Ptr b6 0]]) 230), (b8, .cells (BV (xorV (crO key nonce (n / 16)) (star key))) 22), (b7, .cells (BV (crC bs (n / 16))) 22), (b4, .cells (BV nonce) 173), (b3, .cells (#[Ptr t 0]) 77)] w) ?_
        have hS := hS.drew
        refine dq 0 rfl (by kernel_rfl) (by kernel_rfl) (by kernel_rfl) rfl rfl (fun w hS => lo 5 sc230 hS rfl rfl rfl rfl rfl ⟨rfl, rfl⟩) (hS.sublist (.cons_cons _ (.cons_cons _ (.cons_cons _ (.cons_cons _ (.cons_cons _ (.cons_cons _ (.cons_cons _ (.cons_cons _ (.cons _ (.cons_cons _ (.cons_cons _ (List.nil_sublist _))))))))))))) ?_
        refine dq 1 rfl (by kernel_rfl) (by kernel_rfl) (by kernel_rfl) rfl rfl (fun w hS => mv rfl rfl rfl ⟨rfl, rfl⟩) (hS.sublist (.cons_cons _ (.cons_cons _ (.cons_cons _ (.cons_cons _ (.cons_cons _ (.cons_cons _ (.cons_cons _ (.cons_cons _ (.cons _ (.cons_cons _ (.cons_cons _ (List.nil_sublist _))))))))))))) ?_
        refine dq 2 rfl (by kernel_rfl) (by kernel_rfl) (by kernel_rfl) rfl rfl (fun w hS => lens Tryz.underlying30 rfl rfl rfl ⟨rfl, rfl⟩) (hS.sublist (.cons_cons _ (.cons_cons _ (.cons_cons _ (.cons_cons _ (.cons_cons _ (.cons_cons _ (.cons_cons _ (.cons_cons _ (.cons _ (.cons_cons _ (.cons_cons _ (List.nil_sublist _))))))))))))) ?_
        refine dq 3 rfl (by kernel_rfl) (by kernel_rfl) (by kernel_rfl) rfl rfl (fun w hS => a_h (n - ((n / 16) * 16)) Tryz.underlying22 ⟨_, sz5⟩ rfl rfl rfl rfl (by omega) (by omega) ⟨rfl, rfl⟩) (hS.sublist (.cons_cons _ (.cons_cons _ (.cons_cons _ (.cons_cons _ (.cons_cons _ (.cons_cons _ (.cons_cons _ (.cons_cons _ (.cons _ (.cons_cons _ (.cons_cons _ (List.nil_sublist _))))))))))))) ?_
        refine dl 4 rfl (by kernel_rfl) ?_
        refine cl cf140 rfl rfl rfl rfl rfl (sp_seal_Crypt_1 (some ⟨b17, 0, none⟩) (n - ((n / 16) * 16)) 16 (((xorV (padV ((bs).drop ((n / 16) * 16))) (enc key (xorV (crO key nonce (n / 16)) (star key)))).toList).take (n - ((n / 16) * 16))) _ _ s.1 ((n / 16) * 16) s.2.1 (crT key nonce bs (n / 16)) s.2.2 _ (by simp; omega) (by omega) ((Cel.bv (hS.get 0 rfl)).take8 (n - ((n / 16) * 16))) (hS.get 8 rfl) hO (fun p hp => (hS.own p (by simp [hp])).2) (St.nd (A := [(b17, .cells (BV (xorV (padV ((bs).drop ((n / 16) * 16))) (enc key (xorV (crO key nonce (n / 16)) (star key))))) 22), (b15, .cells (BV (padV ((bs).drop ((n / 16) * 16)))) 22), (b14, .cells (BV (enc key (xorV (crO key nonce (n / 16)) (star key)))) 22), (D, .deferred (some [])), (b23, .cells (#[(.slice a n cap)]) 30), (b9, .cells (#[.func (.func 140) #[] #[Ptr b6 0]]) 230), (b8, .cells (BV (xorV (crO key nonce (n / 16)) (star key))) 22), (b7, .cells (BV (crC bs (n / 16))) 22), (b6, .cells (#[.slice s.1 ((n / 16) * 16) s.2.1]) 30), (b4, .cells (BV nonce) 173), (b3, .cells (#[Ptr t 0]) 77)]) (R := []) (i := 8) hS rfl)) ?_
        rintro _ w ⟨a75, c75, X75, ⟨v75, rfl⟩, hO75, hS1⟩
        refine ⟨_, rfl, ?_⟩
        have hS : St w0 [] ([(b17, .cells (BV (xorV (padV ((bs).drop ((n / 16) * 16))) (enc key (xorV (crO key nonce (n / 16)) (star key))))) 22), (b15, .cells (BV (padV ((bs).drop ((n / 16) * 16)))) 22), (b14, .cells (BV (enc key (xorV (crO key nonce (n / 16)) (star key)))) 22), (D, .deferred (some [])), (b23, .cells (#[(.slice a n cap)]) 30), (b9, .cells (#[.func (.func 140) #[] #[Ptr b6 0]]) 230), (b8, .cells (BV (xorV (crO key nonce (n / 16)) (star key))) 22), (b7, .cells (BV (crC bs (n / 16))) 22), (b6, .cells (#[.slice a75 (((n / 16) * 16) + (n - ((n / 16) * 16))) c75]) 30), (b4, .cells (BV nonce) 173), (b3, .cells (#[Ptr t 0]) 77)] ++ (X75 ++ [])) w := St.call_out (A := [(b17, .cells (BV (xorV (padV ((bs).drop ((n / 16) * 16))) (enc key (xorV (crO key nonce (n / 16)) (star key))))) 22), (b15, .cells (BV (padV ((bs).drop ((n / 16) * 16)))) 22), (b14, .cells (BV (enc key (xorV (crO key nonce (n / 16)) (star key)))) 22), (D, .deferred (some [])), (b23, .cells (#[(.slice a n cap)]) 30), (b9, .cells (#[.func (.func 140) #[] #[Ptr b6 0]]) 230), (b8, .cells (BV (xorV (crO key nonce (n / 16)) (star key))) 22), (b7, .cells (BV (crC bs (n / 16))) 22), (b6, .cells (#[.slice s.1 ((n / 16) * 16) s.2.1]) 30), (b4, .cells (BV nonce) 173), (b3, .cells (#[Ptr t 0]) 77)]) (i := 8) hS rfl hS1
        refine ⟨fun _ => (hS.sublist (.cons_cons _ (.cons_cons _ (.cons_cons _ (.cons_cons _ (.cons_cons _ (.cons_cons _ (.cons_cons _ (.cons_cons _ (.cons _ (.cons_cons _ (.cons_cons _ (List.nil_sublist _))))))))))))), ?_⟩
        refine de (by kernel_rfl) ?_
        refine wq_then ?_
        refine rd mo 7 (fun w => St w0 [] [(b17, .cells (BV (xorV (padV ((bs).drop ((n / 16) * 16))) (enc key (xorV (crO key nonce (n / 16)) (star key))))) 22), (b15, .cells (BV (padV ((bs).drop ((n / 16) * 16)))) 22), (b14, .cells (BV (enc key (xorV (crO key nonce (n / 16)) (star key)))) 22), (D, .deferred (some [])), (b23, .cells (#[(.slice a n cap)]) 30), (b9, .cells (#[.func (.func 140) #[] #[Ptr b6 0]]) 230), (b8, .cells (BV (xorV (crO key nonce (n / 16)) (star key))) 22), (b6, .cells (#[.slice a75 (((n / 16) * 16) + (n - ((n / 16) * 16))) c75]) 30), (b4, .cells (BV nonce) 173), (b3, .cells (#[Ptr t 0]) 77)] w) ?_
        have hS := hS.drew
        refine dq 0 rfl (by kernel_rfl) (by kernel_rfl) (by kernel_rfl) rfl rfl (fun w hS => lo 7 sc30 hS rfl rfl rfl rfl rfl ⟨rfl, rfl⟩) (hS.sublist (.cons_cons _ (.cons_cons _ (.cons_cons _ (.cons_cons _ (.cons_cons _ (.cons_cons _ (.cons_cons _ (.cons _ (.cons_cons _ (.cons_cons _ (.cons_cons _ (List.nil_sublist _))))))))))))) ?_
        refine dq 2 rfl (by kernel_rfl) (by kernel_rfl) (by kernel_rfl) rfl rfl (fun w hS => la 1 ag22 hS rfl rfl rfl rfl (BV_size _) ⟨rfl, rfl⟩) (hS.sublist (.cons_cons _ (.cons_cons _ (.cons_cons _ (.cons_cons _ (.cons_cons _ (.cons_cons _ (.cons_cons _ (.cons _ (.cons_cons _ (.cons_cons _ (.cons_cons _ (List.nil_sublist _))))))))))))) ?_
        refine dq 4 rfl (by kernel_rfl) (by kernel_rfl) (by kernel_rfl) rfl rfl (fun w hS => la 6 ag22 hS rfl rfl rfl rfl (BV_size _) ⟨rfl, rfl⟩) (hS.sublist (.cons_cons _ (.cons_cons _ (.cons_cons _ (.cons_cons _ (.cons_cons _ (.cons_cons _ (.cons_cons _ (.cons _ (.cons_cons _ (.cons_cons _ (.cons_cons _ (List.nil_sublist _))))))))))))) ?_
        refine dl 1 rfl (by kernel_rfl) ?_
        refine la 7 ag22 hS rfl rfl rfl rfl (BV_size _) ?_
        refine ⟨fun _ => (hS.sublist (.cons_cons _ (.cons_cons _ (.cons_cons _ (.cons_cons _ (.cons_cons _ (.cons_cons _ (.cons_cons _ (.cons _ (.cons_cons _ (.cons_cons _ (.cons_cons _ (List.nil_sublist _))))))))))))), ?_⟩
        refine dl 3 rfl (by kernel_rfl) ?_
        refine cv cf143 hS rfl rfl rfl rfl rfl (sp_block_Xor ((crC bs (n / 16))) ((padV ((bs).drop ((n / 16) * 16)))) _) ?_
        intro w hS
        refine ⟨fun _ => (hS.sublist (.cons_cons _ (.cons_cons _ (.cons_cons _ (.cons_cons _ (.cons_cons _ (.cons_cons _ (.cons_cons _ (.cons _ (.cons_cons _ (.cons_cons _ (.cons_cons _ (List.nil_sublist _))))))))))))), ?_⟩
        refine dl 5 rfl (by kernel_rfl) ?_
        refine st 8 sz30 hS rfl rfl rfl rfl rfl rfl Nat.zero_lt_one rfl ?_
        intro w hS
        refine ⟨fun _ => (hS.sublist (.cons_cons _ (.cons_cons _ (.cons_cons _ (.cons_cons _ (.cons_cons _ (.cons_cons _ (.cons_cons _ (.cons _ (.cons_cons _ (.cons_cons _ (.cons_cons _ (List.nil_sublist _))))))))))))), ?_⟩
        refine dl 6 rfl (by kernel_rfl) ?_
        refine sa 7 ag22 hS rfl rfl rfl (BV_one _) rfl (BV_size _) (BV_size _) ?_
        intro w hS
        refine ⟨fun _ => (hS.sublist (.cons_cons _ (.cons_cons _ (.cons_cons _ (.cons_cons _ (.cons_cons _ (.cons_cons _ (.cons_cons _ (.cons _ (.cons_cons _ (.cons_cons _ (.cons_cons _ (List.nil_sublist _))))))))))))), ?_⟩
        refine dl 7 rfl (by kernel_rfl) ?_
        refine sa 6 ag22 hS rfl rfl rfl (BV_one _) rfl (BV_size _) (BV_size _) ?_
        intro w hS
        refine ⟨fun h => (by cases h), ?_⟩
        refine de (by kernel_rfl) ?_
        refine wq_then ?_
        refine wc_ret ?_
        refine finM3 (v := .slice a75 (((n / 16) * 16) + (n - ((n / 16) * 16))) c75) (u := .agg (BV (xorV (crC bs (n / 16)) (padV ((bs).drop ((n / 16) * 16)))))) (x := .agg (BV (xorV (crO key nonce (n / 16)) (star key)))) 3 hS rfl rfl rfl (fun w hS => ⟨_, rfl, lv_c sc30 (hS.get 8 rfl) rfl⟩) (fun w hS => ⟨_, rfl, lv_a ag22 (hS.get 7 rfl) (BV_size _)⟩) (fun w hS => ⟨_, rfl, lv_a ag22 (hS.get 6 rfl) (BV_size _)⟩) (fun w hS => ?_)
        exact ⟨_, _, rfl, ⟨_, _, cry_r1 hn hz _ (by omega), cry_r2 hn hz _ (by omega) hO75⟩, hS.sublist (.cons _ (.cons _ (.cons _ (.cons _ (.cons _ (.cons _ (.cons _ (.cons _ (.cons _ (.cons _ (.cons _ (List.sublist_append_left X75 []))))))))))))⟩
end Go.Proofs.XS

/- walks -/
namespace Go.Proofs.XS
open Go Go.X Go.Proofs
set_option maxRecDepth 100000 in
theorem sp_seal_Seal (t c : Nat) (key : V8 16) (nonce : V8 12) (a : Option Addr) (n cap : Nat) (bs : List UInt8) (a2 : Option Addr) (n2 cap2 : Nat) (bs2 : List UInt8) (w0 : World) (hT : TabAt w0 t c key) (hn : bs.length = n) (hN : n ≤ 1000000) (hc : Cel w0 a (c8 bs)) (hcap : n ≤ cap) (hn2 : bs2.length = n2) (hN2 : n2 ≤ 1000000) (he2 : Cel w0 a2 (c8 bs2)) (hcap2 : n2 ≤ cap2) (hG : Gl 1 w0) : Calls Tryz.prog 85 #[Ptr t 0, .agg (BV nonce), .slice a2 n2 cap2, .slice a n cap] w0 (RetS w0 (fun v X => ∃ a' c', v = .slice a' (n + 16) c' ∧ Own 1 a' (n + 16) c' (c8 (sealV key nonce bs2 bs)) X)) := by
  refine enter (args := [Ptr t 0, .agg (BV nonce), .slice a2 n2 cap2, .slice a n cap]) Tryz.func85 rfl rfl ?_
  refine startw fun w hS => ?_
  obtain ⟨⟨T, hT1⟩, E, hC⟩ := id hT
  refine rg ?_
  refine bxa hS rfl rfl rfl ?_
  intro b5 w hb5 hS
  refine asg rfl rfl rfl ?_
  refine wq_then ?_
  refine rg ?_
  refine mv rfl rfl rfl ?_
  refine la 0 ag173 hS rfl rfl rfl rfl (BV_size _) ?_
  refine mv rfl rfl rfl ?_
  refine cs cf116 hS rfl rfl rfl rfl rfl (sp_seal_Crypt (t) (c) (key) (nonce) (a) (n) (cap) (bs) _ (hT.st hS) (by first | rfl | omega | (simp; omega) | (simp; done)) (by omega) (hc.st hS) (by omega) (hG.st hS)) ?_
  rintro _ X17 w ⟨a17, c17, rfl, hO17⟩ hS
  have hS := St.tailin (X := X17) hS [(b5, .cells (BV nonce) 173)] [] rfl
  refine mv rfl rfl rfl ?_
  refine ext rfl rfl rfl rfl ?_
  refine ext rfl rfl rfl rfl ?_
  refine ext rfl rfl rfl rfl ?_
  refine ala zr22 hS rfl rfl ?_
  intro b10 w hb10 hS
  refine ala zr22 hS rfl rfl ?_
  intro b11 w hb11 hS
  refine asg rfl rfl rfl ?_
  refine sa 1 ag22 hS rfl rfl rfl (BV_one _) rfl (BV_size _) (BV_size _) ?_
  intro w hS
  refine sa 0 ag22 hS rfl rfl rfl (BV_one _) rfl (BV_size _) (BV_size _) ?_
  intro w hS
  refine wq_then ?_
  refine rg ?_
  refine mv rfl rfl rfl ?_
  refine la 1 ag22 hS rfl rfl rfl rfl (BV_size _) ?_
  refine la 0 ag22 hS rfl rfl rfl rfl (BV_size _) ?_
  refine mv rfl rfl rfl ?_
  refine cv cf117 hS rfl rfl rfl rfl rfl (sp_seal_Tag (t) (c) (key) ((cryC bs)) ((cryO key nonce n)) (a2) (n2) (cap2) (bs2) _ (hT.st hS) (by first | rfl | omega | (simp; omega) | (simp; done)) (by omega) (he2.st hS) (by omega) (hG.st hS)) ?_
  intro w hS
  refine ala zr22 hS rfl rfl ?_
  intro b12 w hb12 hS
  refine sa 0 ag22 hS rfl rfl rfl (BV_one _) rfl (BV_size _) (BV_size _) ?_
  intro w hS
  refine wq_then ?_
  refine rg ?_
  refine mv rfl rfl rfl ?_
  refine a_all Tryz.underlying22 ⟨_, sz5⟩ rfl rfl rfl ?_
  refine app (A := [(b12, .cells (BV (tagV key (cryC bs) (cryO key nonce n) bs2)) 22), (b11, .cells (BV (cryO key nonce n)) 22), (b10, .cells (BV (cryC bs)) 22), (b5, .cells (BV nonce) 173)]) (R := []) sl30 hO17 hS rfl rfl rfl rfl (src8 Tryz.underlying30 _ (Cel.bv (hS.get 0 rfl)) Vector.length_toList) (by omega) (by omega) ?_
  intro a28 c28 X28 w hO28 hS
  try simp only [c8_app] at hO28
  refine asg rfl rfl rfl ?_
  refine wq_then ?_
  refine wc_ret ?_
  refine fin1 (v := .slice a28 (n + 16) c28) rfl rfl ?_
  exact ⟨_, _, rfl, ⟨_, _, rfl, by rw [sealV, hn]; exact hO28⟩, hS.sublist (.cons _ (.cons _ (.cons _ (.cons _ (List.sublist_append_left X28 [])))))⟩
end Go.Proofs.XS

/- walks -/
namespace Go.Proofs.XS
open Go Go.X Go.Proofs
set_option maxRecDepth 100000 in
theorem sp_slices_Grow_byte_byte (n : Nat) (n_ : Int) (w0 : World) (hn_ : n_ = (n : Int)) (h0 : 0 < n) (hN : n ≤ 2000000) : Calls Tryz.prog 115 #[.slice none 0 0, I n_] w0 (RetS w0 (fun v X => ∃ a' c', v = .slice a' 0 c' ∧ Own 1 a' 0 c' (c8 []) X)) := by
  subst hn_
  refine enter (args := [.slice none 0 0, I (n : Int)]) Tryz.func115 rfl rfl ?_
  refine startw fun w hS => ?_
  refine rg ?_
  refine asg rfl rfl rfl ?_
  refine wq_then ?_
  refine wc_seq ?_
  refine rg ?_
  refine mv rfl rfl rfl ?_
  refine lss rfl rfl rfl rfl ?_
  refine wq_then ?_
  refine wc_if rfl (fun hc1 => ?_) (fun hc1 => ?_)
  · skip
    try simp only [SB] at hc1
    exfalso; omega
  · skip
    try simp only [SB] at hc1
    refine wc_skip ?_
    refine wq_then ?_
    refine wc_seq ?_
    refine rg ?_
    refine mv rfl rfl rfl ?_
    refine mv rfl rfl rfl ?_
    refine caps Tryz.underlying30 rfl rfl rfl ?_
    refine mv rfl rfl rfl ?_
    refine lens Tryz.underlying30 rfl rfl rfl ?_
    refine subi (by omega) (by omega) rfl rfl rfl rfl ?_
    refine subi (by omega) (by omega) rfl rfl rfl rfl ?_
    refine asg rfl rfl rfl ?_
    refine wq_then ?_
    refine rg ?_
    refine mv rfl rfl rfl ?_
    refine gtr rfl rfl rfl rfl ?_
    refine wq_then ?_
    refine wc_if rfl (fun hc2 => ?_) (fun hc2 => ?_)
    · skip
      try simp only [SB] at hc2
      refine wc_region ?_
      refine mv rfl rfl rfl ?_
      refine mv rfl rfl rfl ?_
      refine caps Tryz.underlying30 rfl rfl rfl ?_
      refine s_h (0) Tryz.underlying30 ⟨_, sz5⟩ rfl rfl rfl rfl (by omega) (by omega) ?_
      refine mv rfl rfl rfl ?_
      refine app0n (q := n) (A := []) (R := []) sl30 ⟨_, Tryz.underlying3⟩ hS rfl rfl rfl rfl (by omega) (by omega) (by decide) (by omega) (by omega) ?_
      intro a22 c22 xs22 X22 w hO22 hS
      refine mv rfl rfl rfl ?_
      refine lens Tryz.underlying30 rfl rfl rfl ?_
      refine s_h (0) Tryz.underlying30 ⟨_, sz5⟩ rfl rfl rfl rfl (by omega) (by omega) ?_
      refine asg rfl rfl rfl ?_
      refine wq_then ?_
      refine rg ?_
      refine mv rfl rfl rfl ?_
      refine asg rfl rfl rfl ?_
      refine wq_then ?_
      refine wc_ret ?_
      refine fin1 (v := .slice a22 0 c22) rfl rfl ?_
      have hO := hO22.shrink 0 (by omega)
      exact ⟨_, X22, rfl, ⟨_, _, rfl, by simpa [c8] using hO⟩, hS.sublist (by simp)⟩
    · skip
      try simp only [SB] at hc2
      exfalso; omega
end Go.Proofs.XS

/- walks -/
namespace Go.Proofs.XS
open Go Go.X Go.Proofs
set_option maxRecDepth 100000 in
theorem sp_slices_Concat_byte_byte (sb E : Nat) (ct : Array Value) (aF : Nat → Option Addr) (nF cF : Nat → Nat) (bF : Nat → List UInt8) (w0 : World) (hb : w0.heap[sb]? = some (.cells ct E)) (hcs : ∀ k, k < 2 → ct[k]? = some (.slice (aF k) (nF k) (cF k))) (hl : ∀ k, (bF k).length = nF k) (hcF : ∀ k, Cel w0 (aF k) (c8 (bF k))) (hNF : ∀ k, nF k ≤ 100000) (h0 : 0 < nF 0) : Calls Tryz.prog 83 #[.slice (some ⟨sb, 0, none⟩) 2 2] w0 (RetS w0 (fun v X => ∃ a' c', v = .slice a' (nF 0 + nF 1) c' ∧ Own 1 a' (nF 0 + nF 1) c' (c8 (bF 0 ++ bF 1)) X)) := by
  refine enter (args := [.slice (some ⟨sb, 0, none⟩) 2 2]) Tryz.func83 rfl rfl ?_
  refine startw fun w hS => ?_
  refine rg ?_
  refine asg rfl rfl rfl ?_
  refine wq_then ?_
  refine rg ?_
  refine asg rfl rfl rfl ?_
  refine wq_then ?_
  refine wc_seq ?_
  refine rg ?_
  refine mv rfl rfl rfl ?_
  refine lens Tryz.underlying208 rfl rfl rfl ?_
  refine mv rfl rfl rfl ?_
  refine wq_then ?_
  refine wc_block ?_
  refine wc_loop (σ := Nat) (fun k => [(0, .slice (some ⟨sb, 0, none⟩) 2 2), (2, (.slice none 0 0)), (3, I (((sumN nF k : Nat) : Int))), (9, .slice (some ⟨sb, 0, none⟩) 2 2), (10, I (((2 : Nat) : Int))), (11, I ((k : Int)))])
    (fun k w => (k ≤ 2 ∧ sumN nF k ≤ k * 100000) ∧ St w0 [] [] w) (fun k => 2 - k) 0 ⟨rfl, rfl, rfl, rfl, rfl, rfl, trivial⟩ ⟨⟨by omega, by simp [sumN]⟩, hS⟩ ?_
  rintro k w ⟨⟨hk, hsk⟩, hS⟩
  have hq := hNF k
  refine rg ?_
  refine lss rfl rfl rfl rfl ?_
  refine wq_then ?_
  refine wc_seq ?_
  refine wc_if rfl (fun hc1 => ?_) (fun hc1 => ?_)
  · skip
    try simp only [SB] at hc1
    refine wc_skip ?_
    refine wq_then ?_
    refine wc_seq ?_
    refine wc_block ?_
    refine rg ?_
    refine isn (k) Tryz.underlying208 sz30 rfl rfl rfl rfl (by omega) (by omega) ?_
    refine lod hb List.not_mem_nil sc30 hS rfl rfl rfl (hcs k (by omega)) ?_
    refine asg rfl rfl rfl ?_
    refine wq_then ?_
    refine rg ?_
    refine mv rfl rfl rfl ?_
    refine mv rfl rfl rfl ?_
    refine lens Tryz.underlying30 rfl rfl rfl ?_
    refine addi (by omega) (by omega) rfl rfl rfl rfl ?_
    refine asg rfl rfl rfl ?_
    refine wq_then ?_
    refine rg ?_
    refine mv rfl rfl rfl ?_
    refine lss rfl rfl rfl rfl ?_
    refine wq_then ?_
    refine wc_if rfl (fun hc2 => ?_) (fun hc2 => ?_)
    · skip
      try simp only [SB] at hc2
      exfalso; omega
    · skip
      try simp only [SB] at hc2
      refine wc_skip ?_
      refine q_block_norm ?_
      refine wq_then ?_
      refine wc_region ?_
      refine addi (by omega) (by omega) rfl rfl rfl rfl ?_
      refine mv rfl rfl rfl ?_
      refine again_q (k + 1) ⟨rfl, rfl, lkI rfl (by simp only [sumN]; omega), rfl, rfl, lkI rfl (by first | omega | rfl), trivial⟩ ⟨⟨by omega, by simp only [sumN]; omega⟩, hS⟩ (by omega)
  · skip
    try simp only [SB] at hc1
    have hk2 : k = 2 := by omega
    have hs3 : sumN nF k = nF 0 + nF 1 := by rw [hk2]; simp [sumN]
    have hq1 := hNF 0
    have hq2 := hNF 1
    refine wc_exit ?_
    refine q_then_exit ?_
    refine q_then_exit ?_
    refine q_block_hit ?_
    refine wq_then ?_
    refine rg ?_
    refine mv rfl rfl rfl ?_
    refine cs cf115 hS rfl rfl rfl rfl rfl (sp_slices_Grow_byte_byte ((sumN nF k)) _ _ (by omega) (by omega) (by omega)) ?_
    rintro _ X24 w ⟨a24, c24, rfl, hO24⟩ hS
    have hS := St.tailin (X := X24) hS [] [] rfl
    refine asg rfl rfl rfl ?_
    refine wq_then ?_
    refine wc_seq ?_
    refine rg ?_
    refine mv rfl rfl rfl ?_
    refine lens Tryz.underlying208 rfl rfl rfl ?_
    refine mv rfl rfl rfl ?_
    refine wq_then ?_
    refine wc_block ?_
    refine wc_loop (σ := (Nat × Option Addr × Nat × List (Nat × Obj))) (fun s => [(2, (.slice none 0 0)), (6, .slice s.2.1 (sumN nF s.1) s.2.2.1), (25, .slice (some ⟨sb, 0, none⟩) 2 2), (26, I (((2 : Nat) : Int))), (27, I ((s.1 : Int)))])
      (fun s w => (s.1 ≤ 2 ∧ sumN nF s.1 ≤ s.1 * 100000 ∧ Own 1 s.2.1 (sumN nF s.1) s.2.2.1 (c8 (catN bF s.1)) s.2.2.2) ∧ St w0 [] ([] ++ (s.2.2.2 ++ [])) w) (fun s => 2 - s.1) (0, a24, c24, X24) ⟨rfl, rfl, rfl, rfl, rfl, trivial⟩ ⟨⟨by omega, by simp [sumN], hO24⟩, hS⟩ ?_
    rintro s w ⟨⟨hk, hsk, hO⟩, hS⟩
    have hq := hNF s.1
    refine rg ?_
    refine lss rfl rfl rfl rfl ?_
    refine wq_then ?_
    refine wc_seq ?_
    refine wc_if rfl (fun hc3 => ?_) (fun hc3 => ?_)
    · skip
      try simp only [SB] at hc3
      refine wc_skip ?_
      refine wq_then ?_
      refine wc_seq ?_
      refine wc_block ?_
      refine rg ?_
      refine isn (s.1) Tryz.underlying208 sz30 rfl rfl rfl rfl (by omega) (by omega) ?_
      refine lod hb List.not_mem_nil sc30 hS rfl rfl rfl (hcs s.1 (by omega)) ?_
      refine asg rfl rfl rfl ?_
      refine wq_then ?_
      refine wc_region ?_
      refine mv rfl rfl rfl ?_
      refine mv rfl rfl rfl ?_
      refine app (A := []) (R := []) sl30 hO hS rfl rfl rfl rfl (src8 Tryz.underlying30 _ ((hcF s.1).st hS) (hl s.1)) (by omega) (by omega) ?_
      intro a33 c33 X33 w hO33 hS
      try simp only [c8_app] at hO33
      refine asg rfl rfl rfl ?_
      refine q_block_norm ?_
      refine wq_then ?_
      refine wc_region ?_
      refine addi (by omega) (by omega) rfl rfl rfl rfl ?_
      refine mv rfl rfl rfl ?_
      refine again_q (s.1 + 1, a33, c33, X33) ⟨rfl, rfl, rfl, rfl, lkI rfl (by first | omega | rfl), trivial⟩ ⟨⟨by omega, by simp only [sumN]; omega, hO33⟩, hS⟩ (by omega)
    · skip
      try simp only [SB] at hc3
      have hk4 : s.1 = 2 := by omega
      refine wc_exit ?_
      refine q_then_exit ?_
      refine q_then_exit ?_
      refine q_block_hit ?_
      refine wq_then ?_
      refine rg ?_
      refine mv rfl rfl rfl ?_
      refine asg rfl rfl rfl ?_
      refine wq_then ?_
      refine wc_ret ?_
      refine fin1 (v := .slice s.2.1 (sumN nF s.1) s.2.2.1) rfl rfl ?_
      refine ⟨_, s.2.2.2, rfl, ⟨s.2.1, s.2.2.1, ?_, ?_⟩, by simpa using hS⟩
      · rw [hk4]; simp [sumN]
      · rw [hk4] at hO; simpa [sumN, catN] using hO
end Go.Proofs.XS

/- walks -/
namespace Go.Proofs.XS
open Go Go.X Go.Proofs
set_option maxRecDepth 100000 in
theorem sp_packet_Encode (t c : Nat) (key : V8 16) (dp : Int) (sp : UInt64) (tp ep : UInt16) (ap : Option Addr) (np capp : Nat) (bsp : List UInt8) (w0 : World) (hT : TabAt w0 t c key) (hnp : bsp.length = np) (hNp : np ≤ 1000000) (hep : Cel w0 ap (c8 bsp)) (hcp : np ≤ capp) (hG : Gl 1 w0) : Calls Tryz.prog 39 #[Ptr t 0, .agg #[I dp, U64 sp, U16 tp, U16 ep, .slice ap np capp]] w0 (RetS w0 (fun v X => ∃ a' n' c', v = .tuple #[.slice a' n' c', errV 33 (chk dp sp np)] ∧ Own 1 a' n' c' (c8 (encP key dp sp tp ep bsp)) X)) := by
  refine enter (args := [Ptr t 0, .agg #[I dp, U64 sp, U16 tp, U16 ep, .slice ap np capp]]) Tryz.func39 rfl rfl ?_
  refine startw fun w hS => ?_
  obtain ⟨⟨T, hT1⟩, E, hC⟩ := id hT
  refine rg ?_
  refine bxa hS rfl rfl rfl ?_
  intro b3 w hb3 hS
  refine asg rfl rfl rfl ?_
  refine asg rfl rfl rfl ?_
  refine wq_then ?_
  refine wc_seq ?_
  refine rg ?_
  refine la 0 ag100 hS rfl rfl rfl rfl rfl ?_
  refine cv cf81 hS rfl rfl rfl rfl rfl (sp_packet_check (dp) (sp) (tp) (ep) (ap) (np) (capp) _) ?_
  intro w hS
  refine asg rfl rfl rfl ?_
  refine wq_then ?_
  refine rg ?_
  refine mv rfl rfl rfl ?_
  refine neE (C := 33) (c := (chk dp sp np)) Tryz.underlying27 rfl rfl rfl ?_
  refine wq_then ?_
  refine wc_if rfl (fun hc1 => ?_) (fun hc1 => ?_)
  · skip
    try simp only [SB] at hc1
    have hk : chk dp sp np ≠ 0 := by simpa using hc1
    refine rg ?_
    refine mv rfl rfl rfl ?_
    refine asg rfl rfl rfl ?_
    refine asg rfl rfl rfl ?_
    refine wq_then ?_
    refine wc_ret ?_
    refine q_then_ret ?_
    refine fin2 (v := (.slice none 0 0)) (u := (errV 33 (chk dp sp np))) rfl rfl rfl ?_
    exact ⟨_, [], rfl, ⟨none, 0, 0, rfl, enc_bad hnp hk⟩, hS.drop⟩
  · skip
    try simp only [SB] at hc1
    have hk : chk dp sp np = 0 := by simpa using hc1
    obtain ⟨⟨dn, hdn, hd1⟩, hs63, hn12⟩ := chk_0 hk
    refine wc_skip ?_
    refine wq_then ?_
    refine rg ?_
    refine fan (0) (0) Tryz.underlying100 rfl sz3 (by decide) rfl rfl rfl rfl (by omega) ?_
    refine lo 0 sc3 hS rfl rfl rfl rfl rfl ?_
    refine fan (1) (1) Tryz.underlying100 rfl sz24 (by decide) rfl rfl rfl rfl (by omega) ?_
    refine lo 0 sc24 hS rfl rfl rfl rfl rfl ?_
    refine cv cf82 hS rfl rfl rfl rfl rfl (sp_nonce_Head (dn) (sp) _ _ (by omega) (by omega) (by omega)) ?_
    intro w hS
    refine mv rfl rfl rfl ?_
    refine ext rfl rfl rfl rfl ?_
    refine ext rfl rfl rfl rfl ?_
    refine ala zr166 hS rfl rfl ?_
    intro b7 w hb7 hS
    refine sa 0 ag166 hS rfl rfl rfl (BV_one _) rfl (BV_size _) (BV_size _) ?_
    intro w hS
    refine asg rfl rfl rfl ?_
    refine wq_then ?_
    refine rd mo 13 (fun w => St w0 [] [(b7, .cells (BV (headV dn sp)) 166), (b3, .cells (#[I (dp), U64 (sp), U16 (tp), U16 (ep), .slice ap np capp]) 100)] w) ?_
    have hS := hS.drew
    refine dq 0 rfl (by kernel_rfl) (by kernel_rfl) (by kernel_rfl) rfl rfl (fun w hS => fan (2) (2) Tryz.underlying100 rfl sz36 (by decide) rfl rfl rfl rfl (by omega) ⟨rfl, rfl⟩) hS ?_
    refine dq 1 rfl (by kernel_rfl) (by kernel_rfl) (by kernel_rfl) rfl rfl (fun w hS => lo 1 sc36 hS rfl rfl rfl rfl rfl ⟨rfl, rfl⟩) hS ?_
    refine dq 2 rfl (by kernel_rfl) (by kernel_rfl) (by kernel_rfl) rfl rfl (fun w hS => cvu64 Tryz.underlying24 ⟨_, Tryz.underlying36⟩ rfl rfl rfl ⟨rfl, rfl⟩) hS ?_
    refine dq 3 rfl (by kernel_rfl) (by kernel_rfl) (by kernel_rfl) rfl rfl (fun w hS => shln64 (16) (by omega) rfl rfl rfl rfl ⟨rfl, rfl⟩) hS ?_
    refine dq 4 rfl (by kernel_rfl) (by kernel_rfl) (by kernel_rfl) rfl rfl (fun w hS => fan (3) (3) Tryz.underlying100 rfl sz36 (by decide) rfl rfl rfl rfl (by omega) ⟨rfl, rfl⟩) hS ?_
    refine dq 5 rfl (by kernel_rfl) (by kernel_rfl) (by kernel_rfl) rfl rfl (fun w hS => lo 1 sc36 hS rfl rfl rfl rfl rfl ⟨rfl, rfl⟩) hS ?_
    refine dq 6 rfl (by kernel_rfl) (by kernel_rfl) (by kernel_rfl) rfl rfl (fun w hS => cvu64 Tryz.underlying24 ⟨_, Tryz.underlying36⟩ rfl rfl rfl ⟨rfl, rfl⟩) hS ?_
    refine dq 7 rfl (by kernel_rfl) (by kernel_rfl) (by kernel_rfl) rfl rfl (fun w hS => or64 rfl rfl rfl rfl ⟨rfl, rfl⟩) hS ?_
    refine dq 9 rfl (by kernel_rfl) (by kernel_rfl) (by kernel_rfl) rfl rfl (fun w hS => fan (4) (4) Tryz.underlying100 rfl sz30 (by decide) rfl rfl rfl rfl (by omega) ⟨rfl, rfl⟩) hS ?_
    refine dq 10 rfl (by kernel_rfl) (by kernel_rfl) (by kernel_rfl) rfl rfl (fun w hS => lo 1 sc30 hS rfl rfl rfl rfl rfl ⟨rfl, rfl⟩) hS ?_
    refine dl 8 rfl (by kernel_rfl) ?_
    refine cs cf84 hS rfl rfl rfl rfl rfl (sp_bits_Bytes (((shl64 (toU64 (((tp).toNat : Int))) 16) ||| (toU64 (((ep).toNat : Int))))) (4) _ _ (by omega) (by omega)) ?_
    rintro _ _ w ⟨q31, rfl, rfl⟩ hS
    refine ⟨fun _ => hS.tl, ?_⟩
    refine dl 11 rfl (by kernel_rfl) ?_
    refine bsl (cs := #[.slice (some ⟨q31, 0, none⟩) 4 4, .slice ap np capp]) sl208 hS rfl rfl rfl rfl (by kernel_rfl) ?_
    intro b34 w hb34 hS
    refine ⟨fun _ => hS.tl.tl, ?_⟩
    refine dl 12 rfl (by kernel_rfl) ?_
    refine cs cf83 hS rfl rfl rfl rfl rfl (sp_slices_Concat_byte_byte b34 30 _ (two (some ⟨q31, 0, none⟩) ap) (two 4 np) (two 4 capp) (two (bytesL ((shl64 (toU64 (((tp).toNat : Int))) 16) ||| (toU64 (((ep).toNat : Int)))) 4) bsp) _ (hS.get 0 rfl) (fun k hk => by rcases (show k = 0 ∨ k = 1 by omega) with rfl | rfl <;> rfl) (fun k => by unfold two; split; exact (by first | rfl | omega | (simp; omega) | (simp; done)); exact (by first | rfl | omega | (simp; omega) | (simp; done))) (fun k => by unfold two; split; exact Cel.lb (l := bytesL ((shl64 (toU64 (((tp).toNat : Int))) 16) ||| (toU64 (((ep).toNat : Int)))) 4) (hS.get 1 rfl); exact hep.st hS) (fun k => by unfold two; split <;> omega) (by rw [two_0]; omega)) ?_
    rintro _ X35 w ⟨a35, c35, rfl, hO35⟩ hS
    have hO35 : Own 1 a35 (4 + np) c35 (c8 ((bytesL ((shl64 (toU64 (((tp).toNat : Int))) 16) ||| (toU64 (((ep).toNat : Int)))) 4) ++ bsp)) X35 := hO35
    have hS := St.tailin (X := X35) hS [(b34, .cells (#[.slice (some ⟨q31, 0, none⟩) 4 4, .slice ap np capp]) 30), (q31, .cells (LB (bytesL ((shl64 (toU64 (((tp).toNat : Int))) 16) ||| (toU64 (((ep).toNat : Int)))) 4)) 5), (b7, .cells (BV (headV dn sp)) 166), (b3, .cells (#[I (dp), U64 (sp), U16 (tp), U16 (ep), .slice ap np capp]) 100)] [] rfl
    have hle35 := hO35.le
    refine ⟨fun _ => (St.untail (A := [(b34, .cells (#[.slice (some ⟨q31, 0, none⟩) 4 4, .slice ap np capp]) 30), (q31, .cells (LB (bytesL ((shl64 (toU64 (((tp).toNat : Int))) 16) ||| (toU64 (((ep).toNat : Int)))) 4)) 5), (b7, .cells (BV (headV dn sp)) 166), (b3, .cells (#[I (dp), U64 (sp), U16 (tp), U16 (ep), .slice ap np capp]) 100)]) (X := X35) (R := []) hS).tl.tl, ?_⟩
    refine dl 13 rfl (by kernel_rfl) ?_
    refine asg rfl rfl rfl ?_
    refine ⟨fun h => (by cases h), ?_⟩
    refine de (by kernel_rfl) ?_
    refine wq_then ?_
    refine rd mo 7 (fun w => St w0 [] [(b3, .cells (#[I (dp), U64 (sp), U16 (tp), U16 (ep), .slice ap np capp]) 100)] w) ?_
    have hS := hS.drew
    refine dq 0 rfl (by kernel_rfl) (by kernel_rfl) (by kernel_rfl) rfl rfl (fun w hS => a_all Tryz.underlying166 ⟨_, sz5⟩ rfl rfl rfl ⟨rfl, rfl⟩) (hS.sublist (.cons _ (.cons _ (.cons _ (.cons_cons _ (List.nil_sublist _)))))) ?_
    refine dq 1 rfl (by kernel_rfl) (by kernel_rfl) (by kernel_rfl) rfl rfl (fun w hS => mv rfl rfl rfl ⟨rfl, rfl⟩) (hS.sublist (.cons _ (.cons _ (.cons _ (.cons_cons _ (List.nil_sublist _)))))) ?_
    refine dq 4 rfl (by kernel_rfl) (by kernel_rfl) (by kernel_rfl) rfl rfl (fun w hS => mv rfl rfl rfl ⟨rfl, rfl⟩) (hS.sublist (.cons _ (.cons _ (.cons _ (.cons_cons _ (List.nil_sublist _)))))) ?_
    refine dl 2 rfl (by kernel_rfl) ?_
    refine la 2 ag166 hS rfl rfl rfl rfl (BV_size _) ?_
    refine ⟨fun _ => (hS.sublist (.cons _ (.cons _ (.cons _ (.cons_cons _ (List.nil_sublist _)))))), ?_⟩
    refine dl 3 rfl (by kernel_rfl) ?_
    refine cv cf86 hS rfl rfl rfl rfl rfl (sp_nonce_Whole ((headV dn sp)) _) ?_
    intro w hS
    refine ⟨fun _ => (hS.sublist (.cons _ (.cons _ (.cons _ (.cons_cons _ (List.nil_sublist _)))))), ?_⟩
    refine dl 5 rfl (by kernel_rfl) ?_
    refine cs cf85 hS rfl rfl rfl rfl rfl (sp_seal_Seal (t) (c) (key) ((nonceV (headV dn sp))) (a35) ((4 + np)) (c35) (((bytesL ((shl64 (toU64 (((tp).toNat : Int))) 16) ||| (toU64 (((ep).toNat : Int)))) 4) ++ bsp)) (none) (0) (0) (([])) _ (hT.st hS) hO35.len8 (by omega) (hO35.cel hS (fun p hp => by simp [hp])) (by omega) rfl (by omega) (Cel.nil _ _) (by omega) (hG.st hS)) ?_
    rintro _ X41 w ⟨a41, c41, rfl, hO41⟩ hS
    have hS := St.tailin (X := X41) hS [(b34, .cells (#[.slice (some ⟨q31, 0, none⟩) 4 4, .slice ap np capp]) 30), (q31, .cells (LB (bytesL ((shl64 (toU64 (((tp).toNat : Int))) 16) ||| (toU64 (((ep).toNat : Int)))) 4)) 5), (b7, .cells (BV (headV dn sp)) 166), (b3, .cells (#[I (dp), U64 (sp), U16 (tp), U16 (ep), .slice ap np capp]) 100)] (X35 ++ []) rfl
    refine ⟨fun _ => (hS.sublist (.cons _ (.cons _ (.cons _ (.cons_cons _ (List.nil_sublist _)))))), ?_⟩
    refine dl 6 rfl (by kernel_rfl) ?_
    refine app (A := [(b34, .cells (#[.slice (some ⟨q31, 0, none⟩) 4 4, .slice ap np capp]) 30), (q31, .cells (LB (bytesL ((shl64 (toU64 (((tp).toNat : Int))) 16) ||| (toU64 (((ep).toNat : Int)))) 4)) 5), (b3, .cells (#[I (dp), U64 (sp), U16 (tp), U16 (ep), .slice ap np capp]) 100)]) (X := [(b7, .cells (BV (headV dn sp)) 166)]) (R := (X41 ++ (X35 ++ []))) sl30 (Own.blk (BV_size _) (by decide)) (St.toend (A := [(b34, .cells (#[.slice (some ⟨q31, 0, none⟩) 4 4, .slice ap np capp]) 30), (q31, .cells (LB (bytesL ((shl64 (toU64 (((tp).toNat : Int))) 16) ||| (toU64 (((ep).toNat : Int)))) 4)) 5), (b7, .cells (BV (headV dn sp)) 166), (b3, .cells (#[I (dp), U64 (sp), U16 (tp), U16 (ep), .slice ap np capp]) 100)]) (R := (X41 ++ (X35 ++ []))) hS 2 rfl) rfl rfl rfl rfl (src8 Tryz.underlying30 _ (hO41.cel hS (fun p hp => by simp [hp])) hO41.len8) (by omega) (by omega) ?_
    intro a42 c42 X42 w hO42 hS
    rw [BV_toList, c8_app] at hO42
    refine ⟨fun _ => (hS.sublist (.cons _ (.cons _ (.cons_cons _ (List.nil_sublist _))))), ?_⟩
    refine dl 7 rfl (by kernel_rfl) ?_
    refine asg rfl rfl rfl ?_
    refine ⟨fun h => (by cases h), ?_⟩
    refine dl 8 rfl (by kernel_rfl) ?_
    refine asg rfl rfl rfl ?_
    refine ⟨fun h => (by cases h), ?_⟩
    refine de (by kernel_rfl) ?_
    refine wq_then ?_
    refine wc_ret ?_
    refine fin2 (v := .slice a42 (8 + ((4 + np) + 16)) c42) (u := .nilIface) rfl rfl rfl ?_
    exact ⟨_, X42, rfl, ⟨_, _, _, enc_e0 hk, enc_ok hnp hk hdn hO42⟩, hS.sublist (.cons _ (.cons _ (.cons _ (List.sublist_append_left X42 (X41 ++ (X35 ++ []))))))⟩
end Go.Proofs.XS

/- walks -/
namespace Go.Proofs.XS
open Go Go.X Go.Proofs
set_option maxRecDepth 100000 in
theorem sp_stamp_Of (x : UInt64) (w0 : World) : Calls Tryz.prog 37 #[U64 x] w0 (Ret w0 (U16 (ofT x))) := by
  refine enter (args := [U64 x]) Tryz.func37 rfl rfl ?_
  refine startw fun w hS => ?_
  refine rg ?_
  refine asg rfl rfl rfl ?_
  refine wq_then ?_
  refine rg ?_
  refine mv rfl rfl rfl ?_
  refine cvu16 Tryz.underlying36 ⟨_, Tryz.underlying24⟩ rfl rfl rfl ?_
  refine asg rfl rfl rfl ?_
  refine wq_then ?_
  refine wc_ret ?_
  refine fin1 (v := U16 (toU16 (((x).toNat : Int)))) rfl rfl ?_
  exact ⟨rfl, hS.drop⟩
end Go.Proofs.XS

/- walks -/
namespace Go.Proofs.XS
open Go Go.X Go.Proofs
set_option maxRecDepth 100000 in
theorem sp_counter_Counter_Peek_1 (c : Int) (w0 : World) : Calls Tryz.prog 77 #[I c] w0 (Ret w0 (.tuple #[U64 0, .iface 33 (I c)])) := by
  refine enter (args := [I c]) Tryz.func77 rfl rfl ?_
  refine startw fun w hS => ?_
  refine rg ?_
  refine asg rfl rfl rfl ?_
  refine asg rfl rfl rfl ?_
  refine wq_then ?_
  refine rg ?_
  refine mv rfl rfl rfl ?_
  refine mki cc33 rfl rfl rfl ?_
  refine asg rfl rfl rfl ?_
  refine asg rfl rfl rfl ?_
  refine wq_then ?_
  refine wc_ret ?_
  refine fin2 (v := U64 (0)) (u := (.iface 33 (I (c)))) rfl rfl rfl ?_
  exact ⟨rfl, hS.drop⟩
end Go.Proofs.XS

/- walks -/
namespace Go.Proofs.XS
open Go Go.X Go.Proofs
set_option maxRecDepth 100000 in
theorem sp_counter_Counter_Peek (pc E : Nat) (nx gvn : UInt64) (cl : Bool) (w0 : World) (hpc : w0.heap[pc]? = some (.cells (#[U64 nx, U64 gvn, .bool cl]) E)) : Calls Tryz.prog 33 #[Ptr pc 0] w0 (Ret w0 (.tuple #[U64 (pekV nx cl), errV 33 (pekE nx cl)])) := by
  refine enter (args := [Ptr pc 0]) Tryz.func33 rfl rfl ?_
  refine startw fun w hS => ?_
  refine rg ?_
  refine asg rfl rfl rfl ?_
  refine asg rfl rfl rfl ?_
  refine wq_then ?_
  refine rg ?_
  refine asg rfl rfl rfl ?_
  refine wq_then ?_
  refine wc_seq ?_
  refine wc_block ?_
  refine rg ?_
  refine mv rfl rfl rfl ?_
  refine eqpn Tryz.underlying81 rfl rfl rfl rfl ?_
  refine mv rfl rfl rfl ?_
  refine mv rfl rfl rfl ?_
  refine nilp rfl rfl rfl ?_
  refine fan (2) (2) Tryz.underlying151 rfl sz4 (by decide) rfl rfl rfl rfl (by omega) ?_
  refine lod hpc List.not_mem_nil sc4 hS rfl rfl rfl rfl ?_
  refine pk_f rfl rfl rfl rfl ?_
  refine asg rfl rfl rfl ?_
  refine wq_then ?_
  refine wc_if rfl (fun hc1 => ?_) (fun hc1 => ?_)
  · skip
    try simp only [SB] at hc1
    refine rg ?_
    refine mv rfl rfl rfl ?_
    refine cv cf77 hS rfl rfl rfl rfl rfl (sp_counter_Counter_Peek_1 (7) _) ?_
    intro w hS
    refine ext rfl rfl rfl rfl ?_
    refine ext rfl rfl rfl rfl ?_
    refine asg rfl rfl rfl ?_
    refine asg rfl rfl rfl ?_
    refine wq_then ?_
    refine wc_ret ?_
    refine q_block_ret ?_
    refine q_then_ret ?_
    refine fin2 (v := U64 (0)) (u := (.iface 33 (I 7))) rfl rfl rfl ?_
    refine ⟨?_, hS.drop⟩
    first | (have hk : pekE nx cl = 7 := (by simp_all [pekE]); rw [pekV, hk]; rfl) | (have hk : pekE nx cl = 6 := (by unfold pekE; rw [if_neg (by simp_all), if_pos (by omega)]); rw [pekV, hk]; rfl) | (have hk : pekE nx cl = 0 := (by unfold pekE; rw [if_neg (by simp_all), if_neg (by omega)]); rw [pekV, hk]; rfl)
  · skip
    try simp only [SB] at hc1
    refine rg ?_
    refine mv rfl rfl rfl ?_
    refine nilp rfl rfl rfl ?_
    refine fan (0) (0) Tryz.underlying151 rfl sz24 (by decide) rfl rfl rfl rfl (by omega) ?_
    refine lod hpc List.not_mem_nil sc24 hS rfl rfl rfl rfl ?_
    refine geq rfl rfl rfl rfl ?_
    refine asg rfl rfl rfl ?_
    refine wq_then ?_
    refine wc_if rfl (fun hc2 => ?_) (fun hc2 => ?_)
    · skip
      try simp only [SB] at hc2
      refine rg ?_
      refine mv rfl rfl rfl ?_
      refine cv cf77 hS rfl rfl rfl rfl rfl (sp_counter_Counter_Peek_1 (6) _) ?_
      intro w hS
      refine ext rfl rfl rfl rfl ?_
      refine ext rfl rfl rfl rfl ?_
      refine asg rfl rfl rfl ?_
      refine asg rfl rfl rfl ?_
      refine wq_then ?_
      refine wc_ret ?_
      refine q_block_ret ?_
      refine q_then_ret ?_
      refine fin2 (v := U64 (0)) (u := (.iface 33 (I 6))) rfl rfl rfl ?_
      refine ⟨?_, hS.drop⟩
      first | (have hk : pekE nx cl = 7 := (by simp_all [pekE]); rw [pekV, hk]; rfl) | (have hk : pekE nx cl = 6 := (by unfold pekE; rw [if_neg (by simp_all), if_pos (by omega)]); rw [pekV, hk]; rfl) | (have hk : pekE nx cl = 0 := (by unfold pekE; rw [if_neg (by simp_all), if_neg (by omega)]); rw [pekV, hk]; rfl)
    · skip
      try simp only [SB] at hc2
      refine wc_skip ?_
      refine q_block_norm ?_
      refine wq_then ?_
      refine rg ?_
      refine mv rfl rfl rfl ?_
      refine nilp rfl rfl rfl ?_
      refine fan (0) (0) Tryz.underlying151 rfl sz24 (by decide) rfl rfl rfl rfl (by omega) ?_
      refine lod hpc List.not_mem_nil sc24 hS rfl rfl rfl rfl ?_
      refine asg rfl rfl rfl ?_
      refine asg rfl rfl rfl ?_
      refine wq_then ?_
      refine wc_ret ?_
      refine fin2 (v := U64 (nx)) (u := .nilIface) rfl rfl rfl ?_
      refine ⟨?_, hS.drop⟩
      first | (have hk : pekE nx cl = 7 := (by simp_all [pekE]); rw [pekV, hk]; rfl) | (have hk : pekE nx cl = 6 := (by unfold pekE; rw [if_neg (by simp_all), if_pos (by omega)]); rw [pekV, hk]; rfl) | (have hk : pekE nx cl = 0 := (by unfold pekE; rw [if_neg (by simp_all), if_neg (by omega)]); rw [pekV, hk]; rfl)
end Go.Proofs.XS

/- walks -/
namespace Go.Proofs.XS
open Go Go.X Go.Proofs
set_option maxRecDepth 100000 in
theorem sp_counter_Counter_Next (pc E : Nat) (nx gvn : UInt64) (cl : Bool) (w0 : World) (hpc : w0.heap[pc]? = some (.cells (#[U64 (nx), U64 (gvn), .bool (cl)]) E)) (hk : pekE nx cl = 0) : Calls Tryz.prog 36 #[Ptr pc 0] w0 (RetM w0 [pc] (fun v L' => v = .tuple #[U64 nx, errV 33 0] ∧ L' = [(pc, .cells #[U64 (nx + 1), U64 (gvn + 1), .bool cl] E)])) := by
  refine enter (args := [Ptr pc 0]) Tryz.func36 rfl rfl ?_
  refine startx (F := [pc]) (L := [(pc, .cells (#[U64 (nx), U64 (gvn), .bool (cl)]) E)]) (St.starts (X := [(pc, .cells (#[U64 (nx), U64 (gvn), .bool (cl)]) E)]) (fun p hp => by simp only [List.mem_cons, List.not_mem_nil, or_false] at hp; subst hp; exact hpc) (by simp)) fun w hS => ?_
  have hv : pekV nx cl = nx := by rw [pekV, if_pos hk]
  refine rg ?_
  refine asg rfl rfl rfl ?_
  refine asg rfl rfl rfl ?_
  refine wq_then ?_
  refine rg ?_
  refine mv rfl rfl rfl ?_
  refine cv cf33 hS rfl rfl rfl rfl rfl (sp_counter_Counter_Peek (pc) (_) (nx) (gvn) (cl) _ (hS.get 0 rfl)) ?_
  intro w hS
  refine mv rfl rfl rfl ?_
  refine ext rfl rfl rfl rfl ?_
  refine ext rfl rfl rfl rfl ?_
  refine asg rfl rfl rfl ?_
  refine asg rfl rfl rfl ?_
  refine wq_then ?_
  refine wc_seq ?_
  refine rg ?_
  refine mv rfl rfl rfl ?_
  refine eqE (C := 33) (c := (pekE nx cl)) Tryz.underlying27 rfl rfl rfl ?_
  refine wq_then ?_
  refine wc_if rfl (fun hc1 => ?_) (fun hc1 => ?_)
  · skip
    try simp only [SB] at hc1
    refine rg ?_
    refine mv rfl rfl rfl ?_
    refine nilp rfl rfl rfl ?_
    refine fan (0) (0) Tryz.underlying151 rfl sz24 (by decide) rfl rfl rfl rfl (by omega) ?_
    refine lo 0 sc24 hS rfl rfl rfl rfl rfl ?_
    refine add64 (q := (1 : UInt64)) rfl rfl rfl rfl ?_
    refine nilp rfl rfl rfl ?_
    refine fan (0) (0) Tryz.underlying151 rfl sz24 (by decide) rfl rfl rfl rfl (by omega) ?_
    refine st 0 sz24 hS rfl rfl rfl rfl rfl rfl (by show (0 : Nat) < 3; decide) rfl ?_
    intro w hS
    refine wq_then ?_
    refine wc_region ?_
    refine mv rfl rfl rfl ?_
    refine nilp rfl rfl rfl ?_
    refine fan (1) (1) Tryz.underlying151 rfl sz24 (by decide) rfl rfl rfl rfl (by omega) ?_
    refine lo 0 sc24 hS rfl rfl rfl rfl rfl ?_
    refine add64 (q := (1 : UInt64)) rfl rfl rfl rfl ?_
    refine nilp rfl rfl rfl ?_
    refine fan (1) (1) Tryz.underlying151 rfl sz24 (by decide) rfl rfl rfl rfl (by omega) ?_
    refine st 0 sz24 hS rfl rfl rfl rfl rfl rfl (by show (1 : Nat) < 3; decide) rfl ?_
    intro w hS
    refine wq_then ?_
    refine rg ?_
    refine mv rfl rfl rfl ?_
    refine mv rfl rfl rfl ?_
    refine asg rfl rfl rfl ?_
    refine asg rfl rfl rfl ?_
    refine wq_then ?_
    refine wc_ret ?_
    refine fin2 (v := U64 (pekV nx cl)) (u := (errV 33 (pekE nx cl))) rfl rfl rfl ?_
    exact ⟨_, _, rfl, ⟨by rw [hv, hk], rfl⟩, hS⟩
  · skip
    try simp only [SB] at hc1
    exact absurd hk hc1
end Go.Proofs.XS

/- walks -/
namespace Go.Proofs.XS
open Go Go.X Go.Proofs
set_option maxRecDepth 100000 in
theorem sp_session_first (sb E K : Nat) (ct : Array Value) (fi : Nat → Nat) (cp : Nat → List Value) (e : Nat → Nat) (w0 : World) (hK : K ≤ 100) (hb : w0.heap[sb]? = some (.cells ct E)) (hct : ∀ k, k < K → ct[k]? = some (.func (.func (fi k)) #[] (cp k).toArray)) (hca : ∀ k, k < K → Callable Tryz.prog (fi k)) (hC : ∀ k, k < K → ∀ W, St w0 [] [] W → Calls Tryz.prog (fi k) (cp k).toArray W (Ret W (errV 33 (e k)))) : Calls Tryz.prog 34 #[.slice (some ⟨sb, 0, none⟩) K K] w0 (Ret w0 (errV 33 (fstE e K))) := by
  refine enter (args := [.slice (some ⟨sb, 0, none⟩) K K]) Tryz.func34 rfl rfl ?_
  refine startw fun w hS => ?_
  refine rg ?_
  refine asg rfl rfl rfl ?_
  refine wq_then ?_
  refine wc_seq ?_
  refine rg ?_
  refine mv rfl rfl rfl ?_
  refine lens Tryz.underlying160 rfl rfl rfl ?_
  refine mv rfl rfl rfl ?_
  refine wq_then ?_
  refine wc_block ?_
  refine wc_loop (σ := Nat) (fun k => [(6, .slice (some ⟨sb, 0, none⟩) K K), (7, I (((K : Nat) : Int))), (8, I ((k : Int)))])
    (fun k w => (k ≤ K ∧ fstE e k = 0) ∧ St w0 [] [] w) (fun k => K - k) 0 ⟨rfl, rfl, rfl, trivial⟩ ⟨⟨by omega, rfl⟩, hS⟩ ?_
  rintro k w ⟨⟨hk, hz⟩, hS⟩
  refine rg ?_
  refine lss rfl rfl rfl rfl ?_
  refine wq_then ?_
  refine wc_seq ?_
  refine wc_if rfl (fun hc1 => ?_) (fun hc1 => ?_)
  · skip
    try simp only [SB] at hc1
    refine wc_skip ?_
    refine wq_then ?_
    refine wc_seq ?_
    refine wc_block ?_
    refine rg ?_
    refine isn (k) Tryz.underlying160 sz95 rfl rfl rfl rfl (by omega) (by omega) ?_
    refine lod hb List.not_mem_nil sc95 hS rfl rfl rfl (hct k (by omega)) ?_
    refine asg rfl rfl rfl ?_
    refine wq_then ?_
    refine rg ?_
    refine mv rfl rfl rfl ?_
    refine cv (hca k (by omega)) hS rfl rfl rfl rfl rfl (hC k (by omega) w hS) ?_
    intro w hS
    refine asg rfl rfl rfl ?_
    refine wq_then ?_
    refine rg ?_
    refine mv rfl rfl rfl ?_
    refine neE (C := 33) (c := (e k)) Tryz.underlying27 rfl rfl rfl ?_
    refine wq_then ?_
    refine wc_if rfl (fun hc2 => ?_) (fun hc2 => ?_)
    · skip
      try simp only [SB] at hc2
      have hz2 : e k ≠ 0 := by simpa using hc2
      refine rg ?_
      refine mv rfl rfl rfl ?_
      refine asg rfl rfl rfl ?_
      refine wq_then ?_
      refine wc_ret ?_
      refine q_block_ret ?_
      refine q_then_ret ?_
      refine q_then_ret ?_
      refine q_block_ret ?_
      refine q_then_ret ?_
      refine fin1 (v := (errV 33 (e k))) rfl rfl ?_
      refine ⟨?_, hS.drop⟩
      rw [fstE_stop e K k (by omega) hz hz2]
    · skip
      try simp only [SB] at hc2
      have hz1 : e k = 0 := by simpa using hc2
      refine wc_skip ?_
      refine q_block_norm ?_
      refine wq_then ?_
      refine wc_region ?_
      refine addi (by omega) (by omega) rfl rfl rfl rfl ?_
      refine mv rfl rfl rfl ?_
      refine again_q (k + 1) ⟨rfl, rfl, lkI rfl (by first | omega | rfl), trivial⟩ ⟨⟨by omega, fstE_s e k hz hz1⟩, hS⟩ (by omega)
  · skip
    try simp only [SB] at hc1
    refine wc_exit ?_
    refine q_then_exit ?_
    refine q_then_exit ?_
    refine q_block_hit ?_
    refine wq_then ?_
    refine rg ?_
    refine asg rfl rfl rfl ?_
    refine wq_then ?_
    refine wc_ret ?_
    refine fin1 (v := .nilIface) rfl rfl ?_
    refine ⟨?_, hS.drop⟩
    have hk4 : k = K := by omega
    rw [← hk4, hz]; rfl
end Go.Proofs.XS

/- walks -/
namespace Go.Proofs.XS
open Go Go.X Go.Proofs
set_option maxRecDepth 100000 in
theorem sp_session_when (bad : Bool) (c : Int) (w0 : World) : Calls Tryz.prog 35 #[.bool bad, I c] w0 (RetS w0 (fun v L => ∃ b1 b2, v = .func (.func 78) #[] #[Ptr b1 0, Ptr b2 0] ∧ L = [(b2, .cells #[I c] 33), (b1, .cells #[.bool bad] 4)])) := by
  refine enter (args := [.bool bad, I c]) Tryz.func35 rfl rfl ?_
  refine startw fun w hS => ?_
  refine rg ?_
  refine bx1 hS rfl rfl rfl rfl ?_
  intro b2 w hb2 hS
  refine bx1 hS rfl rfl rfl rfl ?_
  intro b3 w hb3 hS
  refine asg rfl rfl rfl ?_
  refine wq_then ?_
  refine rg ?_
  refine mkf rfl rfl rfl ?_
  refine asg rfl rfl rfl ?_
  refine wq_then ?_
  refine wc_ret ?_
  refine fin1 (v := .func (.func 78) #[] #[Ptr b2 0, Ptr b3 0]) rfl rfl ?_
  exact ⟨_, _, rfl, ⟨_, _, rfl, rfl⟩, hS⟩
end Go.Proofs.XS

/- walks -/
namespace Go.Proofs.XS
open Go Go.X Go.Proofs
set_option maxRecDepth 100000 in
theorem sp_session_when_1 (p E q E2 : Nat) (bad : Bool) (c : Nat) (w0 : World) (hp : w0.heap[p]? = some (.cells (#[.bool bad]) E)) (hq : w0.heap[q]? = some (.cells (#[I (c : Int)]) E2)) (hc0 : c ≠ 0) : Calls Tryz.prog 78 #[Ptr p 0, Ptr q 0] w0 (Ret w0 (errV 33 (if bad = true then c else 0))) := by
  refine enter (args := [Ptr p 0, Ptr q 0]) Tryz.func78 rfl rfl ?_
  refine startw fun w hS => ?_
  refine rg ?_
  refine asg rfl rfl rfl ?_
  refine wq_then ?_
  refine wc_seq ?_
  refine rg ?_
  refine lod hp List.not_mem_nil sc4 hS rfl rfl rfl rfl ?_
  refine wq_then ?_
  refine wc_if rfl (fun hc1 => ?_) (fun hc1 => ?_)
  · skip
    try simp only [SB] at hc1
    refine rg ?_
    refine lod hq List.not_mem_nil sc33 hS rfl rfl rfl rfl ?_
    refine mki cc33 rfl rfl rfl ?_
    refine asg rfl rfl rfl ?_
    refine wq_then ?_
    refine wc_ret ?_
    refine q_then_ret ?_
    refine fin1 (v := (.iface 33 (I ((c : Int))))) rfl rfl ?_
    refine ⟨?_, hS.drop⟩
    first | (rw [if_pos hc1, errV_s _ _ hc0]) | (rw [if_neg (by simp [hc1])]; rfl)
  · skip
    try simp only [SB] at hc1
    refine wc_skip ?_
    refine wq_then ?_
    refine rg ?_
    refine asg rfl rfl rfl ?_
    refine wq_then ?_
    refine wc_ret ?_
    refine fin1 (v := .nilIface) rfl rfl ?_
    refine ⟨?_, hS.drop⟩
    first | (rw [if_pos hc1, errV_s _ _ hc0]) | (rw [if_neg (by simp [hc1])]; rfl)
end Go.Proofs.XS

/- walks -/
namespace Go.Proofs.XS
open Go Go.X Go.Proofs
set_option maxRecDepth 100000 in
theorem sp_session_Session_Send_1 (b E3 : Nat) (s E pp dr t pc pf pe : Nat) (rl : UInt16) (rc : Nat) (re : UInt32) (fs : UInt64) (cz : Bool) (E2 : Nat) (nx gvn : UInt64) (ccl : Bool) (w0 : World) (hb : w0.heap[b]? = some (.cells (#[Ptr s 0]) E3)) (hs : w0.heap[s]? = some (.cells (#[Ptr pp 0, I ((dr : Nat) : Int), Ptr t 0, Ptr pc 0, Ptr pf 0, Ptr pe 0, U16 rl, I ((rc : Nat) : Int), U32 re, U64 fs, .bool cz]) E)) (hpc : w0.heap[pc]? = some (.cells (#[U64 nx, U64 gvn, .bool ccl]) E2)) : Calls Tryz.prog 32 #[Ptr b 0] w0 (Ret w0 (errV 33 (pekE nx ccl))) := by
  refine enter (args := [Ptr b 0]) Tryz.func32 rfl rfl ?_
  refine startw fun w hS => ?_
  refine rg ?_
  refine asg rfl rfl rfl ?_
  refine wq_then ?_
  refine rg ?_
  refine lod hb List.not_mem_nil sc25 hS rfl rfl rfl rfl ?_
  refine nilp rfl rfl rfl ?_
  refine fan (3) (3) Tryz.underlying90 rfl sz81 (by decide) rfl rfl rfl rfl (by omega) ?_
  refine lod hs List.not_mem_nil sc81 hS rfl rfl rfl rfl ?_
  refine cv cf33 hS rfl rfl rfl rfl rfl (sp_counter_Counter_Peek (pc) (_) (nx) (gvn) (ccl) _ (hS.old hpc List.not_mem_nil)) ?_
  intro w hS
  refine mv rfl rfl rfl ?_
  refine ext rfl rfl rfl rfl ?_
  refine ext rfl rfl rfl rfl ?_
  refine asg rfl rfl rfl ?_
  refine asg rfl rfl rfl ?_
  refine wq_then ?_
  refine rg ?_
  refine mv rfl rfl rfl ?_
  refine asg rfl rfl rfl ?_
  refine wq_then ?_
  refine wc_ret ?_
  refine fin1 (v := (errV 33 (pekE nx ccl))) rfl rfl ?_
  exact ⟨rfl, hS.drop⟩
end Go.Proofs.XS

/- walks -/
namespace Go.Proofs.XS
open Go Go.X Go.Proofs
set_option maxRecDepth 1000000 in
theorem cf79 : Callable Tryz.prog 79 := ⟨_, Tryz.func79, by kernel_rfl, rfl⟩
set_option maxRecDepth 1000000 in
theorem cf80 : Callable Tryz.prog 80 := ⟨_, Tryz.func80, by kernel_rfl, rfl⟩
end Go.Proofs.XS

/- walks -/
namespace Go.Proofs.XS
open Go Go.X Go.Proofs
set_option maxRecDepth 100000 in
theorem sp_Held0 (pe E : Nat) (x : UInt64) (w0 : World) (hpe : w0.heap[pe]? = some (.cells (#[.pointer none]) E)) : Calls Tryz.prog 79 #[Ptr pe 0, U64 x] w0 (Ret w0 (.tuple #[U64 0, .bool false])) := by
  refine enter (args := [Ptr pe 0, U64 x]) Tryz.func79 rfl rfl ?_
  refine startw fun w hS => ?_
  refine rg ?_
  refine asg rfl rfl rfl ?_
  refine asg rfl rfl rfl ?_
  refine wq_then ?_
  refine wc_seq ?_
  refine rg ?_
  refine mv rfl rfl rfl ?_
  refine eqpn Tryz.underlying85 rfl rfl rfl rfl ?_
  refine mv rfl rfl rfl ?_
  refine mv rfl rfl rfl ?_
  refine nilp rfl rfl rfl ?_
  refine fan (0) (0) Tryz.underlying158 rfl sz156 (by decide) rfl rfl rfl rfl (by omega) ?_
  refine lod hpe List.not_mem_nil sc156 hS rfl rfl rfl rfl ?_
  refine eqpp Tryz.underlying156 rfl rfl rfl rfl ?_
  refine pk_f rfl rfl rfl rfl ?_
  refine wq_then ?_
  refine wc_if_t rfl ?_
  refine rg ?_
  refine asg rfl rfl rfl ?_
  refine asg rfl rfl rfl ?_
  refine wq_then ?_
  refine wc_ret ?_
  refine q_then_ret ?_
  refine fin2 (v := U64 (0)) (u := .bool (false)) rfl rfl rfl ?_
  exact ⟨rfl, hS.drop⟩
end Go.Proofs.XS

/- walks -/
namespace Go.Proofs.XS
open Go Go.X Go.Proofs
set_option maxRecDepth 100000 in
theorem sp_Reply0 (pe E : Nat) (x : UInt64) (w0 : World) (hpe : w0.heap[pe]? = some (.cells (#[(.pointer none)]) E)) : Calls Tryz.prog 38 #[Ptr pe 0, U64 x] w0 (RetM w0 [pe] (fun v L' => v = U16 65535 ∧ L' = [(pe, .cells #[.pointer none] E)])) := by
  refine enter (args := [Ptr pe 0, U64 x]) Tryz.func38 rfl rfl ?_
  refine startx (F := [pe]) (L := [(pe, .cells (#[(.pointer none)]) E)]) (St.starts (X := [(pe, .cells (#[(.pointer none)]) E)]) (fun p hp => by simp only [List.mem_cons, List.not_mem_nil, or_false] at hp; subst hp; exact hpe) (by simp)) fun w hS => ?_
  refine rg ?_
  refine asg rfl rfl rfl ?_
  refine wq_then ?_
  refine rg ?_
  refine mv rfl rfl rfl ?_
  refine mv rfl rfl rfl ?_
  refine cv cf79 hS rfl rfl rfl rfl rfl (sp_Held0 (pe) (_) (x) _ (hS.get 0 rfl)) ?_
  intro w hS
  refine mv rfl rfl rfl ?_
  refine ext rfl rfl rfl rfl ?_
  refine ext rfl rfl rfl rfl ?_
  refine asg rfl rfl rfl ?_
  refine asg rfl rfl rfl ?_
  refine wq_then ?_
  refine wc_seq ?_
  refine rg ?_
  refine mv rfl rfl rfl ?_
  refine notb rfl rfl rfl ?_
  refine wq_then ?_
  refine wc_if_t rfl ?_
  refine rg ?_
  refine asg rfl rfl rfl ?_
  refine wq_then ?_
  refine wc_ret ?_
  refine q_then_ret ?_
  refine fin1 (v := U16 (65535)) rfl rfl ?_
  exact ⟨_, _, rfl, ⟨rfl, rfl⟩, hS⟩
end Go.Proofs.XS

/- walks -/
namespace Go.Proofs.XS
open Go Go.X Go.Proofs
set_option maxRecDepth 100000 in
theorem sp_stamp_Add (s : UInt16) (k : Nat) (k_ : Int) (w0 : World) (hk_ : k_ = (k : Int)) : Calls Tryz.prog 114 #[U16 s, I k_] w0 (Ret w0 (U16 (s + toU16 ((k : Nat) : Int)))) := by
  subst hk_
  refine enter (args := [U16 s, I (k : Int)]) Tryz.func114 rfl rfl ?_
  refine startw fun w hS => ?_
  refine rg ?_
  refine asg rfl rfl rfl ?_
  refine wq_then ?_
  refine rg ?_
  refine mv rfl rfl rfl ?_
  refine mv rfl rfl rfl ?_
  refine cvu16 Tryz.underlying36 ⟨_, Tryz.underlying3⟩ rfl rfl rfl ?_
  refine add16 rfl rfl rfl rfl ?_
  refine asg rfl rfl rfl ?_
  refine wq_then ?_
  refine wc_ret ?_
  refine fin1 (v := U16 (s + (toU16 ((k : Int))))) rfl rfl ?_
  exact ⟨rfl, hS.drop⟩
end Go.Proofs.XS

/- walks -/
namespace Go.Proofs.XS
open Go Go.X Go.Proofs
set_option maxRecDepth 100000 in
theorem sp_stamp_Echo (s : UInt16) (h : UInt64) (w0 : World) : Calls Tryz.prog 80 #[U16 s, U64 h] w0 (Ret w0 (U16 (echoN s h))) := by
  refine enter (args := [U16 s, U64 h]) Tryz.func80 rfl rfl ?_
  refine startw fun w hS => ?_
  refine rg ?_
  refine asg rfl rfl rfl ?_
  refine wq_then ?_
  refine wc_seq ?_
  refine rg ?_
  refine mv rfl rfl rfl ?_
  refine gtr rfl rfl rfl rfl ?_
  refine wq_then ?_
  refine wc_if rfl (fun hc1 => ?_) (fun hc1 => ?_)
  · skip
    try simp only [SB] at hc1
    refine rg ?_
    refine asg rfl rfl rfl ?_
    refine wq_then ?_
    refine wc_ret ?_
    refine q_then_ret ?_
    refine fin1 (v := U16 (65535)) rfl rfl ?_
    refine ⟨?_, hS.drop⟩
    rw [echoN, if_pos (by omega)]
  · skip
    try simp only [SB] at hc1
    refine wc_skip ?_
    refine wq_then ?_
    refine rg ?_
    refine mv rfl rfl rfl ?_
    refine mv rfl rfl rfl ?_
    refine cvi Tryz.underlying3 ⟨_, Tryz.underlying24⟩ (by omega) (by omega) rfl rfl rfl ?_
    refine cv cf114 hS rfl rfl rfl rfl rfl (sp_stamp_Add (s) (((h).toNat)) _ _ (by omega)) ?_
    intro w hS
    refine asg rfl rfl rfl ?_
    refine wq_then ?_
    refine wc_ret ?_
    refine fin1 (v := U16 (s + toU16 ((((h).toNat) : Nat) : Int))) rfl rfl ?_
    refine ⟨?_, hS.drop⟩
    rw [echoN, if_neg (by omega)]
end Go.Proofs.XS

/- walks -/
namespace Go.Proofs.XS
open Go Go.X Go.Proofs
set_option maxRecDepth 100000 in
theorem sp_echo_kept_held (s : UInt16) (t x : UInt64) (w0 : World) : Calls Tryz.prog 113 #[.agg #[U16 s, U64 t], U64 x] w0 (Ret w0 (U64 (heldV t x))) := by
  refine enter (args := [.agg #[U16 s, U64 t], U64 x]) Tryz.func113 rfl rfl ?_
  refine startw fun w hS => ?_
  refine rg ?_
  refine bxa hS rfl rfl rfl ?_
  intro b2 w hb2 hS
  refine asg rfl rfl rfl ?_
  refine wq_then ?_
  refine wc_seq ?_
  refine rg ?_
  refine mv rfl rfl rfl ?_
  refine fan (1) (1) Tryz.underlying164 rfl sz24 (by decide) rfl rfl rfl rfl (by omega) ?_
  refine lo 0 sc24 hS rfl rfl rfl rfl rfl ?_
  refine lss rfl rfl rfl rfl ?_
  refine wq_then ?_
  refine wc_if rfl (fun hc1 => ?_) (fun hc1 => ?_)
  · skip
    try simp only [SB] at hc1
    refine rg ?_
    refine asg rfl rfl rfl ?_
    refine wq_then ?_
    refine wc_ret ?_
    refine q_then_ret ?_
    refine fin1 (v := U64 (0)) rfl rfl ?_
    refine ⟨?_, hS.drop⟩
    rw [heldV, if_pos (by omega)]
  · skip
    try simp only [SB] at hc1
    refine wc_skip ?_
    refine wq_then ?_
    refine rg ?_
    refine mv rfl rfl rfl ?_
    refine fan (1) (1) Tryz.underlying164 rfl sz24 (by decide) rfl rfl rfl rfl (by omega) ?_
    refine lo 0 sc24 hS rfl rfl rfl rfl rfl ?_
    refine sub64 rfl rfl rfl rfl ?_
    refine asg rfl rfl rfl ?_
    refine wq_then ?_
    refine wc_ret ?_
    refine fin1 (v := U64 (x - t)) rfl rfl ?_
    refine ⟨?_, hS.drop⟩
    rw [heldV, if_neg (by omega)]
end Go.Proofs.XS

/- walks -/
namespace Go.Proofs.XS
open Go Go.X Go.Proofs
set_option maxRecDepth 100000 in
theorem sp_Held1 (pe E pk E2 : Nat) (s : UInt16) (t x : UInt64) (w0 : World) (hpe : w0.heap[pe]? = some (.cells (#[Ptr pk 0]) E)) (hpk : w0.heap[pk]? = some (.cells (#[U16 s, U64 t]) E2)) : Calls Tryz.prog 79 #[Ptr pe 0, U64 x] w0 (Ret w0 (.tuple #[U64 (heldV t x), .bool true])) := by
  refine enter (args := [Ptr pe 0, U64 x]) Tryz.func79 rfl rfl ?_
  refine startw fun w hS => ?_
  refine rg ?_
  refine asg rfl rfl rfl ?_
  refine asg rfl rfl rfl ?_
  refine wq_then ?_
  refine wc_seq ?_
  refine rg ?_
  refine mv rfl rfl rfl ?_
  refine eqpn Tryz.underlying85 rfl rfl rfl rfl ?_
  refine mv rfl rfl rfl ?_
  refine mv rfl rfl rfl ?_
  refine nilp rfl rfl rfl ?_
  refine fan (0) (0) Tryz.underlying158 rfl sz156 (by decide) rfl rfl rfl rfl (by omega) ?_
  refine lod hpe List.not_mem_nil sc156 hS rfl rfl rfl rfl ?_
  refine eqpn Tryz.underlying156 rfl rfl rfl rfl ?_
  refine pk_f rfl rfl rfl rfl ?_
  refine wq_then ?_
  refine wc_if_f rfl ?_
  refine wc_skip ?_
  refine wq_then ?_
  refine rg ?_
  refine mv rfl rfl rfl ?_
  refine nilp rfl rfl rfl ?_
  refine fan (0) (0) Tryz.underlying158 rfl sz156 (by decide) rfl rfl rfl rfl (by omega) ?_
  refine lod hpe List.not_mem_nil sc156 hS rfl rfl rfl rfl ?_
  refine nilp rfl rfl rfl ?_
  refine lad hpk List.not_mem_nil ag164 hS rfl rfl rfl rfl ?_
  refine mv rfl rfl rfl ?_
  refine cv cf113 hS rfl rfl rfl rfl rfl (sp_echo_kept_held (s) (t) (x) _) ?_
  intro w hS
  refine asg rfl rfl rfl ?_
  refine asg rfl rfl rfl ?_
  refine wq_then ?_
  refine wc_ret ?_
  refine fin2 (v := U64 (heldV t x)) (u := .bool (true)) rfl rfl rfl ?_
  exact ⟨rfl, hS.drop⟩
end Go.Proofs.XS

/- walks -/
namespace Go.Proofs.XS
open Go Go.X Go.Proofs
set_option maxRecDepth 100000 in
theorem sp_Reply1 (pe E : Nat) (pk E2 : Nat) (s : UInt16) (t x : UInt64) (w0 : World) (hpe : w0.heap[pe]? = some (.cells (#[Ptr pk 0]) E)) (hpk : w0.heap[pk]? = some (.cells (#[U16 (s), U64 (t)]) E2)) (hnd : ([pe, pk] : List Nat).Nodup) : Calls Tryz.prog 38 #[Ptr pe 0, U64 x] w0 (RetM w0 [pe, pk] (fun v L' => v = U16 (echoN s (heldV t x)) ∧ L' = [(pe, .cells #[.pointer none] E), (pk, .cells #[U16 s, U64 t] E2)])) := by
  refine enter (args := [Ptr pe 0, U64 x]) Tryz.func38 rfl rfl ?_
  refine startx (F := [pe, pk]) (L := [(pe, .cells (#[Ptr pk 0]) E), (pk, .cells (#[U16 (s), U64 (t)]) E2)]) (St.starts (X := [(pe, .cells (#[Ptr pk 0]) E), (pk, .cells (#[U16 (s), U64 (t)]) E2)]) (fun p hp => by simp only [List.mem_cons, List.not_mem_nil, or_false] at hp; rcases hp with rfl | rfl; exact hpe; exact hpk) hnd) fun w hS => ?_
  refine rg ?_
  refine asg rfl rfl rfl ?_
  refine wq_then ?_
  refine rg ?_
  refine mv rfl rfl rfl ?_
  refine mv rfl rfl rfl ?_
  refine cv cf79 hS rfl rfl rfl rfl rfl (sp_Held1 (pe) (_) (pk) (_) (s) (t) (x) _ (hS.get 0 rfl) (hS.get 1 rfl)) ?_
  intro w hS
  refine mv rfl rfl rfl ?_
  refine ext rfl rfl rfl rfl ?_
  refine ext rfl rfl rfl rfl ?_
  refine asg rfl rfl rfl ?_
  refine asg rfl rfl rfl ?_
  refine wq_then ?_
  refine wc_seq ?_
  refine rg ?_
  refine mv rfl rfl rfl ?_
  refine notb rfl rfl rfl ?_
  refine wq_then ?_
  refine wc_if_f rfl ?_
  refine wc_skip ?_
  refine wq_then ?_
  refine rg ?_
  refine mv rfl rfl rfl ?_
  refine nilp rfl rfl rfl ?_
  refine fan (0) (0) Tryz.underlying158 rfl sz156 (by decide) rfl rfl rfl rfl (by omega) ?_
  refine lo 0 sc156 hS rfl rfl rfl rfl rfl ?_
  refine nilp rfl rfl rfl ?_
  refine fan (0) (0) Tryz.underlying164 rfl sz36 (by decide) rfl rfl rfl rfl (by omega) ?_
  refine lo 1 sc36 hS rfl rfl rfl rfl rfl ?_
  refine mv rfl rfl rfl ?_
  refine cv cf80 hS rfl rfl rfl rfl rfl (sp_stamp_Echo (s) ((heldV t x)) _) ?_
  intro w hS
  refine asg rfl rfl rfl ?_
  refine wq_then ?_
  refine rg ?_
  refine mv rfl rfl rfl ?_
  refine nilp rfl rfl rfl ?_
  refine fan (0) (0) Tryz.underlying158 rfl sz156 (by decide) rfl rfl rfl rfl (by omega) ?_
  refine st 0 sz156 hS rfl rfl rfl rfl rfl rfl Nat.zero_lt_one rfl ?_
  intro w hS
  refine wq_then ?_
  refine rg ?_
  refine mv rfl rfl rfl ?_
  refine asg rfl rfl rfl ?_
  refine wq_then ?_
  refine wc_ret ?_
  refine fin1 (v := U16 (echoN s (heldV t x))) rfl rfl ?_
  exact ⟨_, _, rfl, ⟨rfl, rfl⟩, hS⟩
end Go.Proofs.XS

/- walks -/
namespace Go.Proofs.XS
open Go Go.X Go.Proofs
theorem sp_EchoReply (pe : Nat) (kp : Option (UInt16 × UInt64)) (x : UInt64) (Z : List (Nat × Obj)) (w0 : World) (hE : EchO pe kp Z) (hZ : ∀ p ∈ Z, w0.heap[p.1]? = some p.2) (hnd : (Z.map Prod.fst).Nodup) : Calls Tryz.prog 38 #[Ptr pe 0, U64 x] w0 (RetM w0 (Z.map Prod.fst) fun v Y => v = U16 (replyV kp x) ∧ EchO pe none Y) := by
  obtain ⟨E, ⟨rfl, rfl⟩ | ⟨pk, s, t, E2, rfl, rfl⟩⟩ := hE
  · exact (sp_Reply0 pe E x w0 (hZ (pe, _) (by simp))).mono fun e w' ⟨v, L, he, ⟨hv, hL⟩, hS⟩ => ⟨v, L, he, ⟨hv, E, .inl ⟨rfl, hL⟩⟩, hS⟩
  · refine (sp_Reply1 pe E pk E2 s t x w0 (hZ (pe, _) (by simp)) (hZ (pk, _) (by simp)) hnd).mono fun e w' ⟨v, L, he, ⟨hv, hL⟩, hS⟩ => ⟨v, [(pe, .cells #[.pointer none] E)], he, ⟨hv, E, .inl ⟨rfl, rfl⟩⟩, ?_⟩
    subst hL; exact hS.sublist (by simp)
end Go.Proofs.XS
