/- Part 5 of the ground of this seat's proofs: rules of a calculus of walks, and what the functions of the lower layers compute; no conditions beyond those that each statement bears. -/
import Derived.Test.YtffhheogdmekdaaDoorBase4
import Derived.WalkKit
import Derived.ProofKit
import Derived.OpenShut
import Derived.Deep.DeepHandedRow
import Derived.Deep.Fields
import Derived.Lib.LaidTab
import Derived.Carry
set_option linter.unusedVariables false
set_option linter.unusedSimpArgs false
set_option linter.unnecessarySimpa false
/- walks -/
namespace Go.Proofs.XX
open Go Go.X Go.Proofs
set_option maxRecDepth 100000 in
set_option maxHeartbeats 1600000 in
theorem sp_open_Decrypt (t c : Nat) (key : V8 16) (nonce : V8 12) (a : Option Addr) (n cap : Nat) (bs : List UInt8) (w0 : World) (hT : TabAt w0 t c key) (hn : bs.length = n) (hN : n ≤ 1000000) (hc : Cel w0 a (c8 bs)) (hcap : n ≤ cap) (hG : Gl 0 w0) : Calls Tryd.prog 50 #[Ptr t 0, .agg (BV nonce), .slice a n cap] w0 (RetS w0 (fun v X => ∃ a' c', v = .tuple #[.slice a' n c', .agg (BV (decC key nonce bs)), .agg (BV (cryO key nonce n))] ∧ Own 1 a' n c' (c8 (decT key nonce bs)) X)) := by
  refine enterM (args := [Ptr t 0, .agg (BV nonce), .slice a n cap]) Tryd.func50 rfl rfl ?_
  refine startw fun w hS => ?_
  obtain ⟨⟨T, hT1⟩, E, hC⟩ := id hT
  refine rg ?_
  refine bx1 hS rfl rfl rfl rfl ?_
  intro b3 w hb3 hS
  refine bxa hS rfl rfl rfl ?_
  intro b4 w hb4 hS
  refine al1 zr22 hS rfl rfl rfl ?_
  intro b6 w hb6 hS
  refine ala zr35 hS rfl rfl ?_
  intro b7 w hb7 hS
  refine ala zr35 hS rfl rfl ?_
  intro b8 w hb8 hS
  refine wq_then ?_
  refine rg ?_
  refine lo 4 sc38 hS rfl rfl rfl rfl rfl ?_
  refine la 3 ag79 hS rfl rfl rfl rfl (BV_size _) ?_
  refine cv cf62 hS rfl rfl rfl rfl rfl (sp_offset_Start (t) (c) (key) (nonce) _ (hT.st hS)) ?_
  intro w hS
  refine sa 0 ag35 hS rfl rfl rfl (BV_one _) rfl (BV_size _) (BV_size _) ?_
  intro w hS
  refine wq_then ?_
  refine rg ?_
  refine mkf rfl rfl rfl ?_
  refine al1 zr118 hS rfl rfl rfl ?_
  intro b9 w hb9 hS
  refine st 0 sz118 hS rfl rfl rfl rfl rfl rfl Nat.zero_lt_one rfl ?_
  intro w hS
  refine wq_then ?_
  refine wc_seq ?_
  refine rg ?_
  refine mv rfl rfl rfl ?_
  refine cs cf64 hS rfl rfl rfl rfl rfl (sp_block_All (a) (n) (cap) _) ?_
  rintro _ _ w ⟨b23, rfl, rfl⟩ hS
  refine wq_then ?_
  refine wc_block ?_
  refine wc_range2 (m := 0) (fun k => I ((k + 1 : Nat) : Int)) (fun k => .agg (BV (blk bs k))) (n / 16) (fun W => W.heap[b23]? = some (.cells #[.slice a n cap] 22) ∧ Cel W a (c8 bs)) (fun k L => ∃ s : Option Addr × Nat × List (Nat × Obj), (Own 1 s.1 (k * 16) s.2.1 (c8 (deT key nonce bs k)) s.2.2) ∧ L = ([(b23, .cells (#[(.slice a n cap)]) 22), (b9, .cells (#[.func (.func 72) #[] #[Ptr b6 0, Ptr b7 0]]) 118), (b8, .cells (BV (crO key nonce k)) 35), (b7, .cells (BV (deC key nonce bs k)) 35), (b6, .cells (#[.slice s.1 (k * 16) s.2.1]) 22), (b4, .cells (BV nonce) 79), (b3, .cells (#[Ptr t 0]) 38)] ++ (s.2.2 ++ []))) rfl cf82 rfl rfl hS ⟨(none, 0, []), Own.nil 1, rfl⟩ ?_ ?_ ?_ ?_
  · exact fun lp J W hJ hY h0 => sp_block_All_1 0 lp b23 _ n cap a bs J hn hN hcap hJ hY W h0
  · exact fun k L' W hL hS => by obtain ⟨s, hinv, rfl⟩ := hL; exact ⟨hS.get 0 rfl, hc.st hS⟩
  · rintro k lp D r _ w hr hp hk ⟨s, hO, rfl⟩ hS
    have hS : St w0 [] ([(lp, .loop r), (D, .deferred (some [])), (b23, .cells (#[(.slice a n cap)]) 22), (b9, .cells (#[.func (.func 72) #[] #[Ptr b6 0, Ptr b7 0]]) 118), (b8, .cells (BV (crO key nonce k)) 35), (b7, .cells (BV (deC key nonce bs k)) 35), (b6, .cells (#[.slice s.1 (k * 16) s.2.1]) 22), (b4, .cells (BV nonce) 79), (b3, .cells (#[Ptr t 0]) 38)] ++ (s.2.2 ++ [])) w := hS
    have hx := toU64_ne (k + 1) (by omega) (by omega)
    refine rgi ?_
    refine wi rfl (asg rfl rfl rfl ?_)
    refine wqi_then ?_
    refine wci_region ?_
    refine wi rfl (ala zr35 hS rfl rfl ?_)
    intro b11 w hb11 hS
    refine wi rfl (sa 0 ag35 hS rfl rfl rfl (BV_one _) rfl (BV_size _) (BV_size _) ?_)
    intro w hS
    refine begin_q 1 hS rfl hr (fun w hS => wk_ci ?_)
    refine wci_block ?_
    refine rgi ?_
    refine wi rfl (lo 9 sc38 hS rfl rfl rfl rfl rfl ?_)
    refine wi rfl (la 5 ag35 hS rfl rfl rfl rfl (BV_size _) ?_)
    refine wi rfl (mv rfl rfl rfl ?_)
    refine wi rfl (cvu64 Tryd.underlying24 ⟨_, Tryd.underlying3⟩ rfl rfl rfl ?_)
    refine wi rfl (cv (v := .agg (BV (crO key nonce (k + 1)))) cf65 hS rfl rfl rfl rfl rfl (sp_offset_Next (t) (c) (key) ((crO key nonce k)) ((toU64 (((k + 1 : Nat) : Int)))) _ (hT.st hS) (by assumption) (hG.st hS)) ?_)
    intro w hS
    refine wi rfl (sa 5 ag35 hS rfl rfl rfl (BV_one _) rfl (BV_size _) (BV_size _) ?_)
    intro w hS
    refine wqi_then ?_
    refine rdi mo (by kernel_rfl) 9 (fun w => St w0 [] ([(b11, .cells (BV (blk bs k)) 35), (lp, .loop { r with state := .busy }), (D, .deferred (some [])), (b23, .cells (#[(.slice a n cap)]) 22), (b9, .cells (#[.func (.func 72) #[] #[Ptr b6 0, Ptr b7 0]]) 118), (b8, .cells (BV (crO key nonce (k + 1))) 35), (b7, .cells (BV (deC key nonce bs k)) 35), (b6, .cells (#[.slice s.1 (k * 16) s.2.1]) 22), (b4, .cells (BV nonce) 79), (b3, .cells (#[Ptr t 0]) 38)] ++ (s.2.2 ++ [])) w) ?_
    have hS := hS.drew
    refine dq 0 rfl (by kernel_rfl) (by kernel_rfl) (by kernel_rfl) rfl rfl (fun w hS => la 5 ag35 hS rfl rfl rfl rfl (BV_size _) ⟨rfl, rfl⟩) hS ?_
    refine dq 1 rfl (by kernel_rfl) (by kernel_rfl) (by kernel_rfl) rfl rfl (fun w hS => lo 9 sc38 hS rfl rfl rfl rfl rfl ⟨rfl, rfl⟩) hS ?_
    refine dq 3 rfl (by kernel_rfl) (by kernel_rfl) (by kernel_rfl) rfl rfl (fun w hS => la 0 ag35 hS rfl rfl rfl rfl (BV_size _) ⟨rfl, rfl⟩) hS ?_
    refine dq 4 rfl (by kernel_rfl) (by kernel_rfl) (by kernel_rfl) rfl rfl (fun w hS => la 5 ag35 hS rfl rfl rfl rfl (BV_size _) ⟨rfl, rfl⟩) hS ?_
    refine dl2 2 8 rfl rfl (by kernel_rfl) ?_ ?_
    · skip
      refine cv cf67 hS rfl rfl rfl rfl rfl (sp_table_Table_Cipher (t) (c) (key) _ (hT.st hS)) ?_
      intro w hS
      refine ⟨fun _ => hS, ?_⟩
      refine dl2 5 8 rfl rfl (by kernel_rfl) ?_ ?_
      · skip
        refine cv cf66 hS rfl rfl rfl rfl rfl (sp_block_Xor ((blk bs k)) ((crO key nonce (k + 1))) _) ?_
        intro w hS
        refine ⟨fun _ => hS, ?_⟩
        refine dl2 6 8 rfl rfl (by kernel_rfl) ?_ ?_
        · skip
          refine cv cf73 hS rfl rfl rfl rfl rfl (sp_fast_Cipher_Decrypt (c) (_) (key) ((xorV (blk bs k) (crO key nonce (k + 1)))) _ (hS.old hC List.not_mem_nil)) ?_
          intro w hS
          refine ⟨fun _ => hS, ?_⟩
          refine dl2 7 8 rfl rfl (by kernel_rfl) ?_ ?_
          · skip
            refine cv (v := .agg (BV (deB key nonce bs k))) cf66 hS rfl rfl rfl rfl rfl (sp_block_Xor ((crO key nonce (k + 1))) ((dec key (xorV (blk bs k) (crO key nonce (k + 1))))) _) ?_
            intro w hS
            refine ⟨fun _ => hS, ?_⟩
            refine dl 8 rfl (by kernel_rfl) ?_
            refine ala zr35 hS rfl rfl ?_
            intro b12 w hb12 hS
            refine ⟨fun _ => hS.tl, ?_⟩
            refine dl 9 rfl (by kernel_rfl) ?_
            refine sa 0 ag35 hS rfl rfl rfl (BV_one _) rfl (BV_size _) (BV_size _) ?_
            intro w hS
            refine ⟨fun h => (by cases h), ?_⟩
            refine de (by kernel_rfl) ?_
            refine wqi_then ?_
            refine wci_draw mo (by kernel_rfl) 3 (fun w => St w0 [] ([(b12, .cells (BV (deB key nonce bs k)) 35), (b11, .cells (BV (blk bs k)) 35), (lp, .loop { r with state := .busy }), (D, .deferred (some [])), (b23, .cells (#[(.slice a n cap)]) 22), (b9, .cells (#[.func (.func 72) #[] #[Ptr b6 0, Ptr b7 0]]) 118), (b8, .cells (BV (crO key nonce (k + 1))) 35), (b7, .cells (BV (deC key nonce bs k)) 35), (b6, .cells (#[.slice s.1 (k * 16) s.2.1]) 22), (b4, .cells (BV nonce) 79), (b3, .cells (#[Ptr t 0]) 38)] ++ (s.2.2 ++ [])) w) ?_
            have hS := hS.drew
            refine dq 0 rfl (by kernel_rfl) (by kernel_rfl) (by kernel_rfl) rfl rfl (fun w hS => lo 5 sc118 hS rfl rfl rfl rfl rfl ⟨rfl, rfl⟩) hS ?_
            refine dq 1 rfl (by kernel_rfl) (by kernel_rfl) (by kernel_rfl) rfl rfl (fun w hS => a_all Tryd.underlying35 ⟨_, sz5⟩ rfl rfl rfl ⟨rfl, rfl⟩) hS ?_
            refine dq 2 rfl (by kernel_rfl) (by kernel_rfl) (by kernel_rfl) rfl rfl (fun w hS => la 0 ag35 hS rfl rfl rfl rfl (BV_size _) ⟨rfl, rfl⟩) hS ?_
            refine dl 3 rfl (by kernel_rfl) ?_
            refine cl cf72 rfl rfl rfl rfl rfl (sp_open_Decrypt_1 (some ⟨b12, 0, none⟩) 16 16 ((deB key nonce bs k).toList) (deB key nonce bs k) (deC key nonce bs k) _ _ _ _ s.1 (k * 16) s.2.1 (deT key nonce bs k) s.2.2 _ Vector.length_toList (by omega) (Cel.bv (hS.get 0 rfl)) (hS.get 8 rfl) (hS.get 7 rfl) hO (fun p hp => (hS.own p (by simp [hp])).2) (St.nd2 (A := [(b12, .cells (BV (deB key nonce bs k)) 35), (b11, .cells (BV (blk bs k)) 35), (lp, .loop { r with state := .busy }), (D, .deferred (some [])), (b23, .cells (#[(.slice a n cap)]) 22), (b9, .cells (#[.func (.func 72) #[] #[Ptr b6 0, Ptr b7 0]]) 118), (b8, .cells (BV (crO key nonce (k + 1))) 35), (b7, .cells (BV (deC key nonce bs k)) 35), (b6, .cells (#[.slice s.1 (k * 16) s.2.1]) 22), (b4, .cells (BV nonce) 79), (b3, .cells (#[Ptr t 0]) 38)]) (R := []) (i := 8) (j := 7) hS rfl rfl)) ?_
            rintro _ w ⟨a42, c42, X42, ⟨v42, rfl⟩, hO42, hS1⟩
            refine ⟨_, rfl, ?_⟩
            have hS : St w0 [] ([(b12, .cells (BV (deB key nonce bs k)) 35), (b11, .cells (BV (blk bs k)) 35), (lp, .loop { r with state := .busy }), (D, .deferred (some [])), (b23, .cells (#[(.slice a n cap)]) 22), (b9, .cells (#[.func (.func 72) #[] #[Ptr b6 0, Ptr b7 0]]) 118), (b8, .cells (BV (crO key nonce (k + 1))) 35), (b7, .cells (BV (xorV (deC key nonce bs k) (deB key nonce bs k))) 35), (b6, .cells (#[.slice a42 ((k * 16) + 16) c42]) 22), (b4, .cells (BV nonce) 79), (b3, .cells (#[Ptr t 0]) 38)] ++ (X42 ++ [])) w := St.call_out2 (A := [(b12, .cells (BV (deB key nonce bs k)) 35), (b11, .cells (BV (blk bs k)) 35), (lp, .loop { r with state := .busy }), (D, .deferred (some [])), (b23, .cells (#[(.slice a n cap)]) 22), (b9, .cells (#[.func (.func 72) #[] #[Ptr b6 0, Ptr b7 0]]) 118), (b8, .cells (BV (crO key nonce (k + 1))) 35), (b7, .cells (BV (deC key nonce bs k)) 35), (b6, .cells (#[.slice s.1 (k * 16) s.2.1]) 22), (b4, .cells (BV nonce) 79), (b3, .cells (#[Ptr t 0]) 38)]) (A2 := [(b12, .cells (BV (deB key nonce bs k)) 35), (b11, .cells (BV (blk bs k)) 35), (lp, .loop { r with state := .busy }), (D, .deferred (some [])), (b23, .cells (#[(.slice a n cap)]) 22), (b9, .cells (#[.func (.func 72) #[] #[Ptr b6 0, Ptr b7 0]]) 118), (b8, .cells (BV (crO key nonce (k + 1))) 35), (b7, .cells (BV (xorV (deC key nonce bs k) (deB key nonce bs k))) 35), (b6, .cells (#[.slice a42 ((k * 16) + 16) c42]) 22), (b4, .cells (BV nonce) 79), (b3, .cells (#[Ptr t 0]) 38)]) (i := 8) (j := 7) hS rfl rfl rfl rfl rfl hS1
            refine ⟨fun h => (by cases h), ?_⟩
            refine de (by kernel_rfl) ?_
            refine q_block_norm ?_
            refine end_q 2 hS rfl hr hp (fun w hS => ?_)
            have e16 : k * 16 + 16 = (k + 1) * 16 := by omega
            rw [e16] at hS hO42
            exact ⟨rfl, _, ⟨(a42, c42, X42), hO42, rfl⟩, hS.tl.tl⟩
          · skip
            refine ala zr35 hS rfl rfl ?_
            intro b12 w hb12 hS
            refine ⟨fun _ => hS.tl, ?_⟩
            refine dl 7 rfl (by kernel_rfl) ?_
            refine cv (v := .agg (BV (deB key nonce bs k))) cf66 hS rfl rfl rfl rfl rfl (sp_block_Xor ((crO key nonce (k + 1))) ((dec key (xorV (blk bs k) (crO key nonce (k + 1))))) _) ?_
            intro w hS
            refine ⟨fun _ => hS.tl, ?_⟩
            refine dl 9 rfl (by kernel_rfl) ?_
            refine sa 0 ag35 hS rfl rfl rfl (BV_one _) rfl (BV_size _) (BV_size _) ?_
            intro w hS
            refine ⟨fun h => (by cases h), ?_⟩
            refine de (by kernel_rfl) ?_
            refine wqi_then ?_
            refine wci_draw mo (by kernel_rfl) 3 (fun w => St w0 [] ([(b12, .cells (BV (deB key nonce bs k)) 35), (b11, .cells (BV (blk bs k)) 35), (lp, .loop { r with state := .busy }), (D, .deferred (some [])), (b23, .cells (#[(.slice a n cap)]) 22), (b9, .cells (#[.func (.func 72) #[] #[Ptr b6 0, Ptr b7 0]]) 118), (b8, .cells (BV (crO key nonce (k + 1))) 35), (b7, .cells (BV (deC key nonce bs k)) 35), (b6, .cells (#[.slice s.1 (k * 16) s.2.1]) 22), (b4, .cells (BV nonce) 79), (b3, .cells (#[Ptr t 0]) 38)] ++ (s.2.2 ++ [])) w) ?_
            have hS := hS.drew
            refine dq 0 rfl (by kernel_rfl) (by kernel_rfl) (by kernel_rfl) rfl rfl (fun w hS => lo 5 sc118 hS rfl rfl rfl rfl rfl ⟨rfl, rfl⟩) hS ?_
            refine dq 1 rfl (by kernel_rfl) (by kernel_rfl) (by kernel_rfl) rfl rfl (fun w hS => a_all Tryd.underlying35 ⟨_, sz5⟩ rfl rfl rfl ⟨rfl, rfl⟩) hS ?_
            refine dq 2 rfl (by kernel_rfl) (by kernel_rfl) (by kernel_rfl) rfl rfl (fun w hS => la 0 ag35 hS rfl rfl rfl rfl (BV_size _) ⟨rfl, rfl⟩) hS ?_
            refine dl 3 rfl (by kernel_rfl) ?_
            refine cl cf72 rfl rfl rfl rfl rfl (sp_open_Decrypt_1 (some ⟨b12, 0, none⟩) 16 16 ((deB key nonce bs k).toList) (deB key nonce bs k) (deC key nonce bs k) _ _ _ _ s.1 (k * 16) s.2.1 (deT key nonce bs k) s.2.2 _ Vector.length_toList (by omega) (Cel.bv (hS.get 0 rfl)) (hS.get 8 rfl) (hS.get 7 rfl) hO (fun p hp => (hS.own p (by simp [hp])).2) (St.nd2 (A := [(b12, .cells (BV (deB key nonce bs k)) 35), (b11, .cells (BV (blk bs k)) 35), (lp, .loop { r with state := .busy }), (D, .deferred (some [])), (b23, .cells (#[(.slice a n cap)]) 22), (b9, .cells (#[.func (.func 72) #[] #[Ptr b6 0, Ptr b7 0]]) 118), (b8, .cells (BV (crO key nonce (k + 1))) 35), (b7, .cells (BV (deC key nonce bs k)) 35), (b6, .cells (#[.slice s.1 (k * 16) s.2.1]) 22), (b4, .cells (BV nonce) 79), (b3, .cells (#[Ptr t 0]) 38)]) (R := []) (i := 8) (j := 7) hS rfl rfl)) ?_
            rintro _ w ⟨a42, c42, X42, ⟨v42, rfl⟩, hO42, hS1⟩
            refine ⟨_, rfl, ?_⟩
            have hS : St w0 [] ([(b12, .cells (BV (deB key nonce bs k)) 35), (b11, .cells (BV (blk bs k)) 35), (lp, .loop { r with state := .busy }), (D, .deferred (some [])), (b23, .cells (#[(.slice a n cap)]) 22), (b9, .cells (#[.func (.func 72) #[] #[Ptr b6 0, Ptr b7 0]]) 118), (b8, .cells (BV (crO key nonce (k + 1))) 35), (b7, .cells (BV (xorV (deC key nonce bs k) (deB key nonce bs k))) 35), (b6, .cells (#[.slice a42 ((k * 16) + 16) c42]) 22), (b4, .cells (BV nonce) 79), (b3, .cells (#[Ptr t 0]) 38)] ++ (X42 ++ [])) w := St.call_out2 (A := [(b12, .cells (BV (deB key nonce bs k)) 35), (b11, .cells (BV (blk bs k)) 35), (lp, .loop { r with state := .busy }), (D, .deferred (some [])), (b23, .cells (#[(.slice a n cap)]) 22), (b9, .cells (#[.func (.func 72) #[] #[Ptr b6 0, Ptr b7 0]]) 118), (b8, .cells (BV (crO key nonce (k + 1))) 35), (b7, .cells (BV (deC key nonce bs k)) 35), (b6, .cells (#[.slice s.1 (k * 16) s.2.1]) 22), (b4, .cells (BV nonce) 79), (b3, .cells (#[Ptr t 0]) 38)]) (A2 := [(b12, .cells (BV (deB key nonce bs k)) 35), (b11, .cells (BV (blk bs k)) 35), (lp, .loop { r with state := .busy }), (D, .deferred (some [])), (b23, .cells (#[(.slice a n cap)]) 22), (b9, .cells (#[.func (.func 72) #[] #[Ptr b6 0, Ptr b7 0]]) 118), (b8, .cells (BV (crO key nonce (k + 1))) 35), (b7, .cells (BV (xorV (deC key nonce bs k) (deB key nonce bs k))) 35), (b6, .cells (#[.slice a42 ((k * 16) + 16) c42]) 22), (b4, .cells (BV nonce) 79), (b3, .cells (#[Ptr t 0]) 38)]) (i := 8) (j := 7) hS rfl rfl rfl rfl rfl hS1
            refine ⟨fun h => (by cases h), ?_⟩
            refine de (by kernel_rfl) ?_
            refine q_block_norm ?_
            refine end_q 2 hS rfl hr hp (fun w hS => ?_)
            have e16 : k * 16 + 16 = (k + 1) * 16 := by omega
            rw [e16] at hS hO42
            exact ⟨rfl, _, ⟨(a42, c42, X42), hO42, rfl⟩, hS.tl.tl⟩
        · skip
          refine ala zr35 hS rfl rfl ?_
          intro b12 w hb12 hS
          refine ⟨fun _ => hS.tl, ?_⟩
          refine dl 6 rfl (by kernel_rfl) ?_
          refine cv cf73 hS rfl rfl rfl rfl rfl (sp_fast_Cipher_Decrypt (c) (_) (key) ((xorV (blk bs k) (crO key nonce (k + 1)))) _ (hS.old hC List.not_mem_nil)) ?_
          intro w hS
          refine ⟨fun _ => hS.tl, ?_⟩
          refine dl 7 rfl (by kernel_rfl) ?_
          refine cv (v := .agg (BV (deB key nonce bs k))) cf66 hS rfl rfl rfl rfl rfl (sp_block_Xor ((crO key nonce (k + 1))) ((dec key (xorV (blk bs k) (crO key nonce (k + 1))))) _) ?_
          intro w hS
          refine ⟨fun _ => hS.tl, ?_⟩
          refine dl 9 rfl (by kernel_rfl) ?_
          refine sa 0 ag35 hS rfl rfl rfl (BV_one _) rfl (BV_size _) (BV_size _) ?_
          intro w hS
          refine ⟨fun h => (by cases h), ?_⟩
          refine de (by kernel_rfl) ?_
          refine wqi_then ?_
          refine wci_draw mo (by kernel_rfl) 3 (fun w => St w0 [] ([(b12, .cells (BV (deB key nonce bs k)) 35), (b11, .cells (BV (blk bs k)) 35), (lp, .loop { r with state := .busy }), (D, .deferred (some [])), (b23, .cells (#[(.slice a n cap)]) 22), (b9, .cells (#[.func (.func 72) #[] #[Ptr b6 0, Ptr b7 0]]) 118), (b8, .cells (BV (crO key nonce (k + 1))) 35), (b7, .cells (BV (deC key nonce bs k)) 35), (b6, .cells (#[.slice s.1 (k * 16) s.2.1]) 22), (b4, .cells (BV nonce) 79), (b3, .cells (#[Ptr t 0]) 38)] ++ (s.2.2 ++ [])) w) ?_
          have hS := hS.drew
          refine dq 0 rfl (by kernel_rfl) (by kernel_rfl) (by kernel_rfl) rfl rfl (fun w hS => lo 5 sc118 hS rfl rfl rfl rfl rfl ⟨rfl, rfl⟩) hS ?_
          refine dq 1 rfl (by kernel_rfl) (by kernel_rfl) (by kernel_rfl) rfl rfl (fun w hS => a_all Tryd.underlying35 ⟨_, sz5⟩ rfl rfl rfl ⟨rfl, rfl⟩) hS ?_
          refine dq 2 rfl (by kernel_rfl) (by kernel_rfl) (by kernel_rfl) rfl rfl (fun w hS => la 0 ag35 hS rfl rfl rfl rfl (BV_size _) ⟨rfl, rfl⟩) hS ?_
          refine dl 3 rfl (by kernel_rfl) ?_
          refine cl cf72 rfl rfl rfl rfl rfl (sp_open_Decrypt_1 (some ⟨b12, 0, none⟩) 16 16 ((deB key nonce bs k).toList) (deB key nonce bs k) (deC key nonce bs k) _ _ _ _ s.1 (k * 16) s.2.1 (deT key nonce bs k) s.2.2 _ Vector.length_toList (by omega) (Cel.bv (hS.get 0 rfl)) (hS.get 8 rfl) (hS.get 7 rfl) hO (fun p hp => (hS.own p (by simp [hp])).2) (St.nd2 (A := [(b12, .cells (BV (deB key nonce bs k)) 35), (b11, .cells (BV (blk bs k)) 35), (lp, .loop { r with state := .busy }), (D, .deferred (some [])), (b23, .cells (#[(.slice a n cap)]) 22), (b9, .cells (#[.func (.func 72) #[] #[Ptr b6 0, Ptr b7 0]]) 118), (b8, .cells (BV (crO key nonce (k + 1))) 35), (b7, .cells (BV (deC key nonce bs k)) 35), (b6, .cells (#[.slice s.1 (k * 16) s.2.1]) 22), (b4, .cells (BV nonce) 79), (b3, .cells (#[Ptr t 0]) 38)]) (R := []) (i := 8) (j := 7) hS rfl rfl)) ?_
          rintro _ w ⟨a42, c42, X42, ⟨v42, rfl⟩, hO42, hS1⟩
          refine ⟨_, rfl, ?_⟩
          have hS : St w0 [] ([(b12, .cells (BV (deB key nonce bs k)) 35), (b11, .cells (BV (blk bs k)) 35), (lp, .loop { r with state := .busy }), (D, .deferred (some [])), (b23, .cells (#[(.slice a n cap)]) 22), (b9, .cells (#[.func (.func 72) #[] #[Ptr b6 0, Ptr b7 0]]) 118), (b8, .cells (BV (crO key nonce (k + 1))) 35), (b7, .cells (BV (xorV (deC key nonce bs k) (deB key nonce bs k))) 35), (b6, .cells (#[.slice a42 ((k * 16) + 16) c42]) 22), (b4, .cells (BV nonce) 79), (b3, .cells (#[Ptr t 0]) 38)] ++ (X42 ++ [])) w := St.call_out2 (A := [(b12, .cells (BV (deB key nonce bs k)) 35), (b11, .cells (BV (blk bs k)) 35), (lp, .loop { r with state := .busy }), (D, .deferred (some [])), (b23, .cells (#[(.slice a n cap)]) 22), (b9, .cells (#[.func (.func 72) #[] #[Ptr b6 0, Ptr b7 0]]) 118), (b8, .cells (BV (crO key nonce (k + 1))) 35), (b7, .cells (BV (deC key nonce bs k)) 35), (b6, .cells (#[.slice s.1 (k * 16) s.2.1]) 22), (b4, .cells (BV nonce) 79), (b3, .cells (#[Ptr t 0]) 38)]) (A2 := [(b12, .cells (BV (deB key nonce bs k)) 35), (b11, .cells (BV (blk bs k)) 35), (lp, .loop { r with state := .busy }), (D, .deferred (some [])), (b23, .cells (#[(.slice a n cap)]) 22), (b9, .cells (#[.func (.func 72) #[] #[Ptr b6 0, Ptr b7 0]]) 118), (b8, .cells (BV (crO key nonce (k + 1))) 35), (b7, .cells (BV (xorV (deC key nonce bs k) (deB key nonce bs k))) 35), (b6, .cells (#[.slice a42 ((k * 16) + 16) c42]) 22), (b4, .cells (BV nonce) 79), (b3, .cells (#[Ptr t 0]) 38)]) (i := 8) (j := 7) hS rfl rfl rfl rfl rfl hS1
          refine ⟨fun h => (by cases h), ?_⟩
          refine de (by kernel_rfl) ?_
          refine q_block_norm ?_
          refine end_q 2 hS rfl hr hp (fun w hS => ?_)
          have e16 : k * 16 + 16 = (k + 1) * 16 := by omega
          rw [e16] at hS hO42
          exact ⟨rfl, _, ⟨(a42, c42, X42), hO42, rfl⟩, hS.tl.tl⟩
      · skip
        refine ala zr35 hS rfl rfl ?_
        intro b12 w hb12 hS
        refine ⟨fun _ => hS.tl, ?_⟩
        refine dl 5 rfl (by kernel_rfl) ?_
        refine cv cf66 hS rfl rfl rfl rfl rfl (sp_block_Xor ((blk bs k)) ((crO key nonce (k + 1))) _) ?_
        intro w hS
        refine ⟨fun _ => hS.tl, ?_⟩
        refine dl 6 rfl (by kernel_rfl) ?_
        refine cv cf73 hS rfl rfl rfl rfl rfl (sp_fast_Cipher_Decrypt (c) (_) (key) ((xorV (blk bs k) (crO key nonce (k + 1)))) _ (hS.old hC List.not_mem_nil)) ?_
        intro w hS
        refine ⟨fun _ => hS.tl, ?_⟩
        refine dl 7 rfl (by kernel_rfl) ?_
        refine cv (v := .agg (BV (deB key nonce bs k))) cf66 hS rfl rfl rfl rfl rfl (sp_block_Xor ((crO key nonce (k + 1))) ((dec key (xorV (blk bs k) (crO key nonce (k + 1))))) _) ?_
        intro w hS
        refine ⟨fun _ => hS.tl, ?_⟩
        refine dl 9 rfl (by kernel_rfl) ?_
        refine sa 0 ag35 hS rfl rfl rfl (BV_one _) rfl (BV_size _) (BV_size _) ?_
        intro w hS
        refine ⟨fun h => (by cases h), ?_⟩
        refine de (by kernel_rfl) ?_
        refine wqi_then ?_
        refine wci_draw mo (by kernel_rfl) 3 (fun w => St w0 [] ([(b12, .cells (BV (deB key nonce bs k)) 35), (b11, .cells (BV (blk bs k)) 35), (lp, .loop { r with state := .busy }), (D, .deferred (some [])), (b23, .cells (#[(.slice a n cap)]) 22), (b9, .cells (#[.func (.func 72) #[] #[Ptr b6 0, Ptr b7 0]]) 118), (b8, .cells (BV (crO key nonce (k + 1))) 35), (b7, .cells (BV (deC key nonce bs k)) 35), (b6, .cells (#[.slice s.1 (k * 16) s.2.1]) 22), (b4, .cells (BV nonce) 79), (b3, .cells (#[Ptr t 0]) 38)] ++ (s.2.2 ++ [])) w) ?_
        have hS := hS.drew
        refine dq 0 rfl (by kernel_rfl) (by kernel_rfl) (by kernel_rfl) rfl rfl (fun w hS => lo 5 sc118 hS rfl rfl rfl rfl rfl ⟨rfl, rfl⟩) hS ?_
        refine dq 1 rfl (by kernel_rfl) (by kernel_rfl) (by kernel_rfl) rfl rfl (fun w hS => a_all Tryd.underlying35 ⟨_, sz5⟩ rfl rfl rfl ⟨rfl, rfl⟩) hS ?_
        refine dq 2 rfl (by kernel_rfl) (by kernel_rfl) (by kernel_rfl) rfl rfl (fun w hS => la 0 ag35 hS rfl rfl rfl rfl (BV_size _) ⟨rfl, rfl⟩) hS ?_
        refine dl 3 rfl (by kernel_rfl) ?_
        refine cl cf72 rfl rfl rfl rfl rfl (sp_open_Decrypt_1 (some ⟨b12, 0, none⟩) 16 16 ((deB key nonce bs k).toList) (deB key nonce bs k) (deC key nonce bs k) _ _ _ _ s.1 (k * 16) s.2.1 (deT key nonce bs k) s.2.2 _ Vector.length_toList (by omega) (Cel.bv (hS.get 0 rfl)) (hS.get 8 rfl) (hS.get 7 rfl) hO (fun p hp => (hS.own p (by simp [hp])).2) (St.nd2 (A := [(b12, .cells (BV (deB key nonce bs k)) 35), (b11, .cells (BV (blk bs k)) 35), (lp, .loop { r with state := .busy }), (D, .deferred (some [])), (b23, .cells (#[(.slice a n cap)]) 22), (b9, .cells (#[.func (.func 72) #[] #[Ptr b6 0, Ptr b7 0]]) 118), (b8, .cells (BV (crO key nonce (k + 1))) 35), (b7, .cells (BV (deC key nonce bs k)) 35), (b6, .cells (#[.slice s.1 (k * 16) s.2.1]) 22), (b4, .cells (BV nonce) 79), (b3, .cells (#[Ptr t 0]) 38)]) (R := []) (i := 8) (j := 7) hS rfl rfl)) ?_
        rintro _ w ⟨a42, c42, X42, ⟨v42, rfl⟩, hO42, hS1⟩
        refine ⟨_, rfl, ?_⟩
        have hS : St w0 [] ([(b12, .cells (BV (deB key nonce bs k)) 35), (b11, .cells (BV (blk bs k)) 35), (lp, .loop { r with state := .busy }), (D, .deferred (some [])), (b23, .cells (#[(.slice a n cap)]) 22), (b9, .cells (#[.func (.func 72) #[] #[Ptr b6 0, Ptr b7 0]]) 118), (b8, .cells (BV (crO key nonce (k + 1))) 35), (b7, .cells (BV (xorV (deC key nonce bs k) (deB key nonce bs k))) 35), (b6, .cells (#[.slice a42 ((k * 16) + 16) c42]) 22), (b4, .cells (BV nonce) 79), (b3, .cells (#[Ptr t 0]) 38)] ++ (X42 ++ [])) w := St.call_out2 (A := [(b12, .cells (BV (deB key nonce bs k)) 35), (b11, .cells (BV (blk bs k)) 35), (lp, .loop { r with state := .busy }), (D, .deferred (some [])), (b23, .cells (#[(.slice a n cap)]) 22), (b9, .cells (#[.func (.func 72) #[] #[Ptr b6 0, Ptr b7 0]]) 118), (b8, .cells (BV (crO key nonce (k + 1))) 35), (b7, .cells (BV (deC key nonce bs k)) 35), (b6, .cells (#[.slice s.1 (k * 16) s.2.1]) 22), (b4, .cells (BV nonce) 79), (b3, .cells (#[Ptr t 0]) 38)]) (A2 := [(b12, .cells (BV (deB key nonce bs k)) 35), (b11, .cells (BV (blk bs k)) 35), (lp, .loop { r with state := .busy }), (D, .deferred (some [])), (b23, .cells (#[(.slice a n cap)]) 22), (b9, .cells (#[.func (.func 72) #[] #[Ptr b6 0, Ptr b7 0]]) 118), (b8, .cells (BV (crO key nonce (k + 1))) 35), (b7, .cells (BV (xorV (deC key nonce bs k) (deB key nonce bs k))) 35), (b6, .cells (#[.slice a42 ((k * 16) + 16) c42]) 22), (b4, .cells (BV nonce) 79), (b3, .cells (#[Ptr t 0]) 38)]) (i := 8) (j := 7) hS rfl rfl rfl rfl rfl hS1
        refine ⟨fun h => (by cases h), ?_⟩
        refine de (by kernel_rfl) ?_
        refine q_block_norm ?_
        refine end_q 2 hS rfl hr hp (fun w hS => ?_)
        have e16 : k * 16 + 16 = (k + 1) * 16 := by omega
        rw [e16] at hS hO42
        exact ⟨rfl, _, ⟨(a42, c42, X42), hO42, rfl⟩, hS.tl.tl⟩
    · skip
      refine ala zr35 hS rfl rfl ?_
      intro b12 w hb12 hS
      refine ⟨fun _ => hS.tl, ?_⟩
      refine dl 2 rfl (by kernel_rfl) ?_
      refine cv cf67 hS rfl rfl rfl rfl rfl (sp_table_Table_Cipher (t) (c) (key) _ (hT.st hS)) ?_
      intro w hS
      refine ⟨fun _ => hS.tl, ?_⟩
      refine dl 5 rfl (by kernel_rfl) ?_
      refine cv cf66 hS rfl rfl rfl rfl rfl (sp_block_Xor ((blk bs k)) ((crO key nonce (k + 1))) _) ?_
      intro w hS
      refine ⟨fun _ => hS.tl, ?_⟩
      refine dl 6 rfl (by kernel_rfl) ?_
      refine cv cf73 hS rfl rfl rfl rfl rfl (sp_fast_Cipher_Decrypt (c) (_) (key) ((xorV (blk bs k) (crO key nonce (k + 1)))) _ (hS.old hC List.not_mem_nil)) ?_
      intro w hS
      refine ⟨fun _ => hS.tl, ?_⟩
      refine dl 7 rfl (by kernel_rfl) ?_
      refine cv (v := .agg (BV (deB key nonce bs k))) cf66 hS rfl rfl rfl rfl rfl (sp_block_Xor ((crO key nonce (k + 1))) ((dec key (xorV (blk bs k) (crO key nonce (k + 1))))) _) ?_
      intro w hS
      refine ⟨fun _ => hS.tl, ?_⟩
      refine dl 9 rfl (by kernel_rfl) ?_
      refine sa 0 ag35 hS rfl rfl rfl (BV_one _) rfl (BV_size _) (BV_size _) ?_
      intro w hS
      refine ⟨fun h => (by cases h), ?_⟩
      refine de (by kernel_rfl) ?_
      refine wqi_then ?_
      refine wci_draw mo (by kernel_rfl) 3 (fun w => St w0 [] ([(b12, .cells (BV (deB key nonce bs k)) 35), (b11, .cells (BV (blk bs k)) 35), (lp, .loop { r with state := .busy }), (D, .deferred (some [])), (b23, .cells (#[(.slice a n cap)]) 22), (b9, .cells (#[.func (.func 72) #[] #[Ptr b6 0, Ptr b7 0]]) 118), (b8, .cells (BV (crO key nonce (k + 1))) 35), (b7, .cells (BV (deC key nonce bs k)) 35), (b6, .cells (#[.slice s.1 (k * 16) s.2.1]) 22), (b4, .cells (BV nonce) 79), (b3, .cells (#[Ptr t 0]) 38)] ++ (s.2.2 ++ [])) w) ?_
      have hS := hS.drew
      refine dq 0 rfl (by kernel_rfl) (by kernel_rfl) (by kernel_rfl) rfl rfl (fun w hS => lo 5 sc118 hS rfl rfl rfl rfl rfl ⟨rfl, rfl⟩) hS ?_
      refine dq 1 rfl (by kernel_rfl) (by kernel_rfl) (by kernel_rfl) rfl rfl (fun w hS => a_all Tryd.underlying35 ⟨_, sz5⟩ rfl rfl rfl ⟨rfl, rfl⟩) hS ?_
      refine dq 2 rfl (by kernel_rfl) (by kernel_rfl) (by kernel_rfl) rfl rfl (fun w hS => la 0 ag35 hS rfl rfl rfl rfl (BV_size _) ⟨rfl, rfl⟩) hS ?_
      refine dl 3 rfl (by kernel_rfl) ?_
      refine cl cf72 rfl rfl rfl rfl rfl (sp_open_Decrypt_1 (some ⟨b12, 0, none⟩) 16 16 ((deB key nonce bs k).toList) (deB key nonce bs k) (deC key nonce bs k) _ _ _ _ s.1 (k * 16) s.2.1 (deT key nonce bs k) s.2.2 _ Vector.length_toList (by omega) (Cel.bv (hS.get 0 rfl)) (hS.get 8 rfl) (hS.get 7 rfl) hO (fun p hp => (hS.own p (by simp [hp])).2) (St.nd2 (A := [(b12, .cells (BV (deB key nonce bs k)) 35), (b11, .cells (BV (blk bs k)) 35), (lp, .loop { r with state := .busy }), (D, .deferred (some [])), (b23, .cells (#[(.slice a n cap)]) 22), (b9, .cells (#[.func (.func 72) #[] #[Ptr b6 0, Ptr b7 0]]) 118), (b8, .cells (BV (crO key nonce (k + 1))) 35), (b7, .cells (BV (deC key nonce bs k)) 35), (b6, .cells (#[.slice s.1 (k * 16) s.2.1]) 22), (b4, .cells (BV nonce) 79), (b3, .cells (#[Ptr t 0]) 38)]) (R := []) (i := 8) (j := 7) hS rfl rfl)) ?_
      rintro _ w ⟨a42, c42, X42, ⟨v42, rfl⟩, hO42, hS1⟩
      refine ⟨_, rfl, ?_⟩
      have hS : St w0 [] ([(b12, .cells (BV (deB key nonce bs k)) 35), (b11, .cells (BV (blk bs k)) 35), (lp, .loop { r with state := .busy }), (D, .deferred (some [])), (b23, .cells (#[(.slice a n cap)]) 22), (b9, .cells (#[.func (.func 72) #[] #[Ptr b6 0, Ptr b7 0]]) 118), (b8, .cells (BV (crO key nonce (k + 1))) 35), (b7, .cells (BV (xorV (deC key nonce bs k) (deB key nonce bs k))) 35), (b6, .cells (#[.slice a42 ((k * 16) + 16) c42]) 22), (b4, .cells (BV nonce) 79), (b3, .cells (#[Ptr t 0]) 38)] ++ (X42 ++ [])) w := St.call_out2 (A := [(b12, .cells (BV (deB key nonce bs k)) 35), (b11, .cells (BV (blk bs k)) 35), (lp, .loop { r with state := .busy }), (D, .deferred (some [])), (b23, .cells (#[(.slice a n cap)]) 22), (b9, .cells (#[.func (.func 72) #[] #[Ptr b6 0, Ptr b7 0]]) 118), (b8, .cells (BV (crO key nonce (k + 1))) 35), (b7, .cells (BV (deC key nonce bs k)) 35), (b6, .cells (#[.slice s.1 (k * 16) s.2.1]) 22), (b4, .cells (BV nonce) 79), (b3, .cells (#[Ptr t 0]) 38)]) (A2 := [(b12, .cells (BV (deB key nonce bs k)) 35), (b11, .cells (BV (blk bs k)) 35), (lp, .loop { r with state := .busy }), (D, .deferred (some [])), (b23, .cells (#[(.slice a n cap)]) 22), (b9, .cells (#[.func (.func 72) #[] #[Ptr b6 0, Ptr b7 0]]) 118), (b8, .cells (BV (crO key nonce (k + 1))) 35), (b7, .cells (BV (xorV (deC key nonce bs k) (deB key nonce bs k))) 35), (b6, .cells (#[.slice a42 ((k * 16) + 16) c42]) 22), (b4, .cells (BV nonce) 79), (b3, .cells (#[Ptr t 0]) 38)]) (i := 8) (j := 7) hS rfl rfl rfl rfl rfl hS1
      refine ⟨fun h => (by cases h), ?_⟩
      refine de (by kernel_rfl) ?_
      refine q_block_norm ?_
      refine end_q 2 hS rfl hr hp (fun w hS => ?_)
      have e16 : k * 16 + 16 = (k + 1) * 16 := by omega
      rw [e16] at hS hO42
      exact ⟨rfl, _, ⟨(a42, c42, X42), hO42, rfl⟩, hS.tl.tl⟩
  · rintro D _ w ⟨s, hO, rfl⟩ hS
    have hS : St w0 [] ([(D, .deferred (some [])), (b23, .cells (#[(.slice a n cap)]) 22), (b9, .cells (#[.func (.func 72) #[] #[Ptr b6 0, Ptr b7 0]]) 118), (b8, .cells (BV (crO key nonce (n / 16))) 35), (b7, .cells (BV (deC key nonce bs (n / 16))) 35), (b6, .cells (#[.slice s.1 ((n / 16) * 16) s.2.1]) 22), (b4, .cells (BV nonce) 79), (b3, .cells (#[Ptr t 0]) 38)] ++ (s.2.2 ++ [])) w := hS
    refine q_block_norm ?_
    refine wq_then ?_
    refine rg ?_
    refine mv rfl rfl rfl ?_
    refine lo 5 sc22 hS rfl rfl rfl rfl rfl ?_
    refine lens Tryd.underlying22 rfl rfl rfl ?_
    refine s_l ((n / 16) * 16) Tryd.underlying22 sz5 rfl rfl rfl rfl (by omega) (by omega) ?_
    refine asg rfl rfl rfl ?_
    refine wq_then ?_
    refine wc_seq ?_
    refine rg ?_
    refine mv rfl rfl rfl ?_
    refine lens Tryd.underlying22 rfl rfl rfl ?_
    refine eqi rfl rfl rfl rfl ?_
    refine wq_then ?_
    refine wc_if rfl (fun hc1 => ?_) (fun hc1 => ?_)
    · skip
      try simp only [SB] at hc1
      have hz : n / 16 * 16 = n := by omega
      refine rd mo 5 (fun w => St w0 [] ([(D, .deferred (some [])), (b23, .cells (#[(.slice a n cap)]) 22), (b9, .cells (#[.func (.func 72) #[] #[Ptr b6 0, Ptr b7 0]]) 118), (b8, .cells (BV (crO key nonce (n / 16))) 35), (b7, .cells (BV (deC key nonce bs (n / 16))) 35), (b6, .cells (#[.slice s.1 ((n / 16) * 16) s.2.1]) 22), (b4, .cells (BV nonce) 79), (b3, .cells (#[Ptr t 0]) 38)] ++ (s.2.2 ++ [])) w) ?_
      have hS := hS.drew
      refine dq 0 rfl (by kernel_rfl) (by kernel_rfl) (by kernel_rfl) rfl rfl (fun w hS => lo 5 sc22 hS rfl rfl rfl rfl rfl ⟨rfl, rfl⟩) hS ?_
      refine dq 1 rfl (by kernel_rfl) (by kernel_rfl) (by kernel_rfl) rfl rfl (fun w hS => la 4 ag35 hS rfl rfl rfl rfl (BV_size _) ⟨rfl, rfl⟩) hS ?_
      refine dq 2 rfl (by kernel_rfl) (by kernel_rfl) (by kernel_rfl) rfl rfl (fun w hS => la 3 ag35 hS rfl rfl rfl rfl (BV_size _) ⟨rfl, rfl⟩) hS ?_
      refine dl 3 rfl (by kernel_rfl) ?_
      refine st 5 sz22 hS rfl rfl rfl rfl rfl rfl Nat.zero_lt_one rfl ?_
      intro w hS
      refine ⟨fun _ => hS, ?_⟩
      refine dl 4 rfl (by kernel_rfl) ?_
      refine sa 4 ag35 hS rfl rfl rfl (BV_one _) rfl (BV_size _) (BV_size _) ?_
      intro w hS
      refine ⟨fun _ => hS, ?_⟩
      refine dl 5 rfl (by kernel_rfl) ?_
      refine sa 3 ag35 hS rfl rfl rfl (BV_one _) rfl (BV_size _) (BV_size _) ?_
      intro w hS
      refine ⟨fun h => (by cases h), ?_⟩
      refine de (by kernel_rfl) ?_
      refine wq_then ?_
      refine wc_ret ?_
      refine q_then_ret ?_
      refine finM3 (v := .slice s.1 ((n / 16) * 16) s.2.1) (u := .agg (BV (deC key nonce bs (n / 16)))) (x := .agg (BV (crO key nonce (n / 16)))) 0 hS rfl rfl rfl (fun w hS => ⟨_, rfl, lv_c sc22 (hS.get 5 rfl) rfl⟩) (fun w hS => ⟨_, rfl, lv_a ag35 (hS.get 4 rfl) (BV_size _)⟩) (fun w hS => ⟨_, rfl, lv_a ag35 (hS.get 3 rfl) (BV_size _)⟩) (fun w hS => ?_)
      exact ⟨_, _, rfl, ⟨_, _, dec_z1 hn hz, dec_z2 hn hz hO⟩, hS.sublist (.cons _ (.cons _ (.cons _ (.cons _ (.cons _ (.cons _ (.cons _ (.cons _ (List.sublist_append_left s.2.2 [])))))))))⟩
    · skip
      try simp only [SB] at hc1
      have hz : ¬ n / 16 * 16 = n := by omega
      refine wc_skip ?_
      refine wq_then ?_
      refine rd mo 4 (fun w => St w0 [] ([(D, .deferred (some [])), (b23, .cells (#[(.slice a n cap)]) 22), (b9, .cells (#[.func (.func 72) #[] #[Ptr b6 0, Ptr b7 0]]) 118), (b8, .cells (BV (crO key nonce (n / 16))) 35), (b7, .cells (BV (deC key nonce bs (n / 16))) 35), (b6, .cells (#[.slice s.1 ((n / 16) * 16) s.2.1]) 22), (b4, .cells (BV nonce) 79), (b3, .cells (#[Ptr t 0]) 38)] ++ (s.2.2 ++ [])) w) ?_
      have hS := hS.drew
      refine dq 0 rfl (by kernel_rfl) (by kernel_rfl) (by kernel_rfl) rfl rfl (fun w hS => la 3 ag35 hS rfl rfl rfl rfl (BV_size _) ⟨rfl, rfl⟩) hS ?_
      refine dq 1 rfl (by kernel_rfl) (by kernel_rfl) (by kernel_rfl) rfl rfl (fun w hS => lo 7 sc38 hS rfl rfl rfl rfl rfl ⟨rfl, rfl⟩) hS ?_
      refine dl 2 rfl (by kernel_rfl) ?_
      refine cv cf68 hS rfl rfl rfl rfl rfl (sp_table_Table_Star (t) (c) (key) _ (hT.st hS)) ?_
      intro w hS
      refine ⟨fun _ => hS, ?_⟩
      refine dl 3 rfl (by kernel_rfl) ?_
      refine cv cf66 hS rfl rfl rfl rfl rfl (sp_block_Xor ((crO key nonce (n / 16))) ((star key)) _) ?_
      intro w hS
      refine ⟨fun _ => hS, ?_⟩
      refine dl 4 rfl (by kernel_rfl) ?_
      refine sa 3 ag35 hS rfl rfl rfl (BV_one _) rfl (BV_size _) (BV_size _) ?_
      intro w hS
      refine ⟨fun h => (by cases h), ?_⟩
      refine de (by kernel_rfl) ?_
      refine wq_then ?_
      refine rd mo 5 (fun w => St w0 [] ([(D, .deferred (some [])), (b23, .cells (#[(.slice a n cap)]) 22), (b9, .cells (#[.func (.func 72) #[] #[Ptr b6 0, Ptr b7 0]]) 118), (b8, .cells (BV (xorV (crO key nonce (n / 16)) (star key))) 35), (b7, .cells (BV (deC key nonce bs (n / 16))) 35), (b6, .cells (#[.slice s.1 ((n / 16) * 16) s.2.1]) 22), (b4, .cells (BV nonce) 79), (b3, .cells (#[Ptr t 0]) 38)] ++ (s.2.2 ++ [])) w) ?_
      have hS := hS.drew
      refine dq 0 rfl (by kernel_rfl) (by kernel_rfl) (by kernel_rfl) rfl rfl (fun w hS => lo 7 sc38 hS rfl rfl rfl rfl rfl ⟨rfl, rfl⟩) hS ?_
      refine dq 2 rfl (by kernel_rfl) (by kernel_rfl) (by kernel_rfl) rfl rfl (fun w hS => la 3 ag35 hS rfl rfl rfl rfl (BV_size _) ⟨rfl, rfl⟩) hS ?_
      refine dl2 1 4 rfl rfl (by kernel_rfl) ?_ ?_
      · skip
        refine cv cf67 hS rfl rfl rfl rfl rfl (sp_table_Table_Cipher (t) (c) (key) _ (hT.st hS)) ?_
        intro w hS
        refine ⟨fun _ => hS, ?_⟩
        refine dl2 3 4 rfl rfl (by kernel_rfl) ?_ ?_
        · skip
          refine cv cf25 hS rfl rfl rfl rfl rfl (sp_fast_Cipher_Encrypt (c) (_) (key) ((xorV (crO key nonce (n / 16)) (star key))) _ (hS.old hC List.not_mem_nil)) ?_
          intro w hS
          refine ⟨fun _ => hS, ?_⟩
          refine dl 4 rfl (by kernel_rfl) ?_
          refine ala zr35 hS rfl rfl ?_
          intro b14 w hb14 hS
          refine ⟨fun _ => hS.tl, ?_⟩
          refine dl 5 rfl (by kernel_rfl) ?_
          refine sa 0 ag35 hS rfl rfl rfl (BV_one _) rfl (BV_size _) (BV_size _) ?_
          intro w hS
          refine ⟨fun h => (by cases h), ?_⟩
          refine de (by kernel_rfl) ?_
          refine wq_then ?_
          refine rg ?_
          refine mv rfl rfl rfl ?_
          refine a_all Tryd.underlying35 ⟨_, sz5⟩ rfl rfl rfl ?_
          refine cs cf74 hS rfl rfl rfl rfl rfl (sp_bits_Xor ((sla a ((n / 16) * 16) cap)) ((n - ((n / 16) * 16))) ((cap - ((n / 16) * 16))) (((bs).drop ((n / 16) * 16))) ((some ⟨b14, 0, none⟩)) (16) (16) (((enc key (xorV (crO key nonce (n / 16)) (star key))).toList)) _ (by first | rfl | omega | (simp; omega) | (simp; done)) (by omega) ((hc.st hS).drop8 (lo := (n / 16) * 16) (cap := cap) (by first | omega | (simp; omega) | simp)) Vector.length_toList (by omega) (Cel.bv (hS.get 0 rfl))) ?_
          rintro _ _ w ⟨q63, rfl, rfl⟩ hS
          refine asg rfl rfl rfl ?_
          refine wq_then ?_
          refine rg ?_
          refine mv rfl rfl rfl ?_
          refine cv cf69 hS rfl rfl rfl rfl rfl (sp_block_Pad ((some ⟨q63, 0, none⟩)) ((min (n - ((n / 16) * 16)) 16)) ((min (n - ((n / 16) * 16)) 16)) ((xorb ((bs).drop ((n / 16) * 16)) ((enc key (xorV (crO key nonce (n / 16)) (star key))).toList))) _ (by rw [xorb_len]; (try simp) <;> omega) (by omega) (Cel.lb (l := xorb ((bs).drop ((n / 16) * 16)) ((enc key (xorV (crO key nonce (n / 16)) (star key))).toList)) (hS.get 0 rfl)) (by omega)) ?_
          intro w hS
          refine mv rfl rfl rfl ?_
          refine ext rfl rfl rfl rfl ?_
          refine ext rfl rfl rfl rfl ?_
          refine ala zr35 hS rfl rfl ?_
          intro b16 w hb16 hS
          refine sa 0 ag35 hS rfl rfl rfl (BV_one _) rfl (BV_size _) (BV_size _) ?_
          intro w hS
          refine asg rfl rfl rfl ?_
          refine wq_then ?_
          refine rg ?_
          refine lo 5 sc118 hS rfl rfl rfl rfl rfl ?_
          refine mv rfl rfl rfl ?_
          refine la 0 ag35 hS rfl rfl rfl rfl (BV_size _) ?_
          refine cl cf72 rfl rfl rfl rfl rfl (sp_open_Decrypt_1 (some ⟨q63, 0, none⟩) (min (n - ((n / 16) * 16)) 16) (min (n - ((n / 16) * 16)) 16) (xorb ((bs).drop ((n / 16) * 16)) ((enc key (xorV (crO key nonce (n / 16)) (star key))).toList)) (padV (xorb ((bs).drop ((n / 16) * 16)) ((enc key (xorV (crO key nonce (n / 16)) (star key))).toList))) (deC key nonce bs (n / 16)) _ _ _ _ s.1 ((n / 16) * 16) s.2.1 (deT key nonce bs (n / 16)) s.2.2 _ (by rw [xorb_len]; (try simp) <;> omega) (by omega) (Cel.lb (l := xorb ((bs).drop ((n / 16) * 16)) ((enc key (xorV (crO key nonce (n / 16)) (star key))).toList)) (hS.get 1 rfl)) (hS.get 8 rfl) (hS.get 7 rfl) hO (fun p hp => (hS.own p (by simp [hp])).2) (St.nd2 (A := [(b16, .cells (BV (padV (xorb ((bs).drop ((n / 16) * 16)) ((enc key (xorV (crO key nonce (n / 16)) (star key))).toList)))) 35), (q63, .cells (LB (xorb ((bs).drop ((n / 16) * 16)) ((enc key (xorV (crO key nonce (n / 16)) (star key))).toList))) 5), (b14, .cells (BV (enc key (xorV (crO key nonce (n / 16)) (star key)))) 35), (D, .deferred (some [])), (b23, .cells (#[(.slice a n cap)]) 22), (b9, .cells (#[.func (.func 72) #[] #[Ptr b6 0, Ptr b7 0]]) 118), (b8, .cells (BV (xorV (crO key nonce (n / 16)) (star key))) 35), (b7, .cells (BV (deC key nonce bs (n / 16))) 35), (b6, .cells (#[.slice s.1 ((n / 16) * 16) s.2.1]) 22), (b4, .cells (BV nonce) 79), (b3, .cells (#[Ptr t 0]) 38)]) (R := []) (i := 8) (j := 7) hS rfl rfl)) ?_
          rintro _ w ⟨a72, c72, X72, ⟨v72, rfl⟩, hO72, hS1⟩
          refine ⟨_, rfl, ?_⟩
          have hS : St w0 [] ([(b16, .cells (BV (padV (xorb ((bs).drop ((n / 16) * 16)) ((enc key (xorV (crO key nonce (n / 16)) (star key))).toList)))) 35), (q63, .cells (LB (xorb ((bs).drop ((n / 16) * 16)) ((enc key (xorV (crO key nonce (n / 16)) (star key))).toList))) 5), (b14, .cells (BV (enc key (xorV (crO key nonce (n / 16)) (star key)))) 35), (D, .deferred (some [])), (b23, .cells (#[(.slice a n cap)]) 22), (b9, .cells (#[.func (.func 72) #[] #[Ptr b6 0, Ptr b7 0]]) 118), (b8, .cells (BV (xorV (crO key nonce (n / 16)) (star key))) 35), (b7, .cells (BV (xorV (deC key nonce bs (n / 16)) (padV (xorb ((bs).drop ((n / 16) * 16)) ((enc key (xorV (crO key nonce (n / 16)) (star key))).toList))))) 35), (b6, .cells (#[.slice a72 (((n / 16) * 16) + (min (n - ((n / 16) * 16)) 16)) c72]) 22), (b4, .cells (BV nonce) 79), (b3, .cells (#[Ptr t 0]) 38)] ++ (X72 ++ [])) w := St.call_out2 (A := [(b16, .cells (BV (padV (xorb ((bs).drop ((n / 16) * 16)) ((enc key (xorV (crO key nonce (n / 16)) (star key))).toList)))) 35), (q63, .cells (LB (xorb ((bs).drop ((n / 16) * 16)) ((enc key (xorV (crO key nonce (n / 16)) (star key))).toList))) 5), (b14, .cells (BV (enc key (xorV (crO key nonce (n / 16)) (star key)))) 35), (D, .deferred (some [])), (b23, .cells (#[(.slice a n cap)]) 22), (b9, .cells (#[.func (.func 72) #[] #[Ptr b6 0, Ptr b7 0]]) 118), (b8, .cells (BV (xorV (crO key nonce (n / 16)) (star key))) 35), (b7, .cells (BV (deC key nonce bs (n / 16))) 35), (b6, .cells (#[.slice s.1 ((n / 16) * 16) s.2.1]) 22), (b4, .cells (BV nonce) 79), (b3, .cells (#[Ptr t 0]) 38)]) (A2 := [(b16, .cells (BV (padV (xorb ((bs).drop ((n / 16) * 16)) ((enc key (xorV (crO key nonce (n / 16)) (star key))).toList)))) 35), (q63, .cells (LB (xorb ((bs).drop ((n / 16) * 16)) ((enc key (xorV (crO key nonce (n / 16)) (star key))).toList))) 5), (b14, .cells (BV (enc key (xorV (crO key nonce (n / 16)) (star key)))) 35), (D, .deferred (some [])), (b23, .cells (#[(.slice a n cap)]) 22), (b9, .cells (#[.func (.func 72) #[] #[Ptr b6 0, Ptr b7 0]]) 118), (b8, .cells (BV (xorV (crO key nonce (n / 16)) (star key))) 35), (b7, .cells (BV (xorV (deC key nonce bs (n / 16)) (padV (xorb ((bs).drop ((n / 16) * 16)) ((enc key (xorV (crO key nonce (n / 16)) (star key))).toList))))) 35), (b6, .cells (#[.slice a72 (((n / 16) * 16) + (min (n - ((n / 16) * 16)) 16)) c72]) 22), (b4, .cells (BV nonce) 79), (b3, .cells (#[Ptr t 0]) 38)]) (i := 8) (j := 7) hS rfl rfl rfl rfl rfl hS1
          refine wq_then ?_
          refine rd mo 5 (fun w => St w0 [] ([(b16, .cells (BV (padV (xorb ((bs).drop ((n / 16) * 16)) ((enc key (xorV (crO key nonce (n / 16)) (star key))).toList)))) 35), (q63, .cells (LB (xorb ((bs).drop ((n / 16) * 16)) ((enc key (xorV (crO key nonce (n / 16)) (star key))).toList))) 5), (b14, .cells (BV (enc key (xorV (crO key nonce (n / 16)) (star key)))) 35), (D, .deferred (some [])), (b23, .cells (#[(.slice a n cap)]) 22), (b9, .cells (#[.func (.func 72) #[] #[Ptr b6 0, Ptr b7 0]]) 118), (b8, .cells (BV (xorV (crO key nonce (n / 16)) (star key))) 35), (b7, .cells (BV (xorV (deC key nonce bs (n / 16)) (padV (xorb ((bs).drop ((n / 16) * 16)) ((enc key (xorV (crO key nonce (n / 16)) (star key))).toList))))) 35), (b6, .cells (#[.slice a72 (((n / 16) * 16) + (min (n - ((n / 16) * 16)) 16)) c72]) 22), (b4, .cells (BV nonce) 79), (b3, .cells (#[Ptr t 0]) 38)] ++ (X72 ++ [])) w) ?_
          have hS := hS.drew
          refine dq 0 rfl (by kernel_rfl) (by kernel_rfl) (by kernel_rfl) rfl rfl (fun w hS => lo 8 sc22 hS rfl rfl rfl rfl rfl ⟨rfl, rfl⟩) hS ?_
          refine dq 1 rfl (by kernel_rfl) (by kernel_rfl) (by kernel_rfl) rfl rfl (fun w hS => la 7 ag35 hS rfl rfl rfl rfl (BV_size _) ⟨rfl, rfl⟩) hS ?_
          refine dq 2 rfl (by kernel_rfl) (by kernel_rfl) (by kernel_rfl) rfl rfl (fun w hS => la 6 ag35 hS rfl rfl rfl rfl (BV_size _) ⟨rfl, rfl⟩) hS ?_
          refine dl 3 rfl (by kernel_rfl) ?_
          refine st 8 sz22 hS rfl rfl rfl rfl rfl rfl Nat.zero_lt_one rfl ?_
          intro w hS
          refine ⟨fun _ => hS, ?_⟩
          refine dl 4 rfl (by kernel_rfl) ?_
          refine sa 7 ag35 hS rfl rfl rfl (BV_one _) rfl (BV_size _) (BV_size _) ?_
          intro w hS
          refine ⟨fun _ => hS, ?_⟩
          refine dl 5 rfl (by kernel_rfl) ?_
          refine sa 6 ag35 hS rfl rfl rfl (BV_one _) rfl (BV_size _) (BV_size _) ?_
          intro w hS
          refine ⟨fun h => (by cases h), ?_⟩
          refine de (by kernel_rfl) ?_
          refine wq_then ?_
          refine wc_ret ?_
          refine finM3 (v := .slice a72 (((n / 16) * 16) + (min (n - ((n / 16) * 16)) 16)) c72) (u := .agg (BV (xorV (deC key nonce bs (n / 16)) (padV (xorb ((bs).drop ((n / 16) * 16)) ((enc key (xorV (crO key nonce (n / 16)) (star key))).toList)))))) (x := .agg (BV (xorV (crO key nonce (n / 16)) (star key)))) 3 hS rfl rfl rfl (fun w hS => ⟨_, rfl, lv_c sc22 (hS.get 8 rfl) rfl⟩) (fun w hS => ⟨_, rfl, lv_a ag35 (hS.get 7 rfl) (BV_size _)⟩) (fun w hS => ⟨_, rfl, lv_a ag35 (hS.get 6 rfl) (BV_size _)⟩) (fun w hS => ?_)
          exact ⟨_, _, rfl, ⟨_, _, dec_r1 hn hz _ (by omega), dec_r2 hn hz _ (by omega) hO72⟩, hS.sublist (.cons _ (.cons _ (.cons _ (.cons _ (.cons _ (.cons _ (.cons _ (.cons _ (.cons _ (.cons _ (.cons _ (List.sublist_append_left X72 []))))))))))))⟩
        · skip
          refine ala zr35 hS rfl rfl ?_
          intro b14 w hb14 hS
          refine ⟨fun _ => hS.tl, ?_⟩
          refine dl 3 rfl (by kernel_rfl) ?_
          refine cv cf25 hS rfl rfl rfl rfl rfl (sp_fast_Cipher_Encrypt (c) (_) (key) ((xorV (crO key nonce (n / 16)) (star key))) _ (hS.old hC List.not_mem_nil)) ?_
          intro w hS
          refine ⟨fun _ => hS.tl, ?_⟩
          refine dl 5 rfl (by kernel_rfl) ?_
          refine sa 0 ag35 hS rfl rfl rfl (BV_one _) rfl (BV_size _) (BV_size _) ?_
          intro w hS
          refine ⟨fun h => (by cases h), ?_⟩
          refine de (by kernel_rfl) ?_
          refine wq_then ?_
          refine rg ?_
          refine mv rfl rfl rfl ?_
          refine a_all Tryd.underlying35 ⟨_, sz5⟩ rfl rfl rfl ?_
          refine cs cf74 hS rfl rfl rfl rfl rfl (sp_bits_Xor ((sla a ((n / 16) * 16) cap)) ((n - ((n / 16) * 16))) ((cap - ((n / 16) * 16))) (((bs).drop ((n / 16) * 16))) ((some ⟨b14, 0, none⟩)) (16) (16) (((enc key (xorV (crO key nonce (n / 16)) (star key))).toList)) _ (by first | rfl | omega | (simp; omega) | (simp; done)) (by omega) ((hc.st hS).drop8 (lo := (n / 16) * 16) (cap := cap) (by first | omega | (simp; omega) | simp)) Vector.length_toList (by omega) (Cel.bv (hS.get 0 rfl))) ?_
          rintro _ _ w ⟨q63, rfl, rfl⟩ hS
          refine asg rfl rfl rfl ?_
          refine wq_then ?_
          refine rg ?_
          refine mv rfl rfl rfl ?_
          refine cv cf69 hS rfl rfl rfl rfl rfl (sp_block_Pad ((some ⟨q63, 0, none⟩)) ((min (n - ((n / 16) * 16)) 16)) ((min (n - ((n / 16) * 16)) 16)) ((xorb ((bs).drop ((n / 16) * 16)) ((enc key (xorV (crO key nonce (n / 16)) (star key))).toList))) _ (by rw [xorb_len]; (try simp) <;> omega) (by omega) (Cel.lb (l := xorb ((bs).drop ((n / 16) * 16)) ((enc key (xorV (crO key nonce (n / 16)) (star key))).toList)) (hS.get 0 rfl)) (by omega)) ?_
          intro w hS
          refine mv rfl rfl rfl ?_
          refine ext rfl rfl rfl rfl ?_
          refine ext rfl rfl rfl rfl ?_
          refine ala zr35 hS rfl rfl ?_
          intro b16 w hb16 hS
          refine sa 0 ag35 hS rfl rfl rfl (BV_one _) rfl (BV_size _) (BV_size _) ?_
          intro w hS
          refine asg rfl rfl rfl ?_
          refine wq_then ?_
          refine rg ?_
          refine lo 5 sc118 hS rfl rfl rfl rfl rfl ?_
          refine mv rfl rfl rfl ?_
          refine la 0 ag35 hS rfl rfl rfl rfl (BV_size _) ?_
          refine cl cf72 rfl rfl rfl rfl rfl (sp_open_Decrypt_1 (some ⟨q63, 0, none⟩) (min (n - ((n / 16) * 16)) 16) (min (n - ((n / 16) * 16)) 16) (xorb ((bs).drop ((n / 16) * 16)) ((enc key (xorV (crO key nonce (n / 16)) (star key))).toList)) (padV (xorb ((bs).drop ((n / 16) * 16)) ((enc key (xorV (crO key nonce (n / 16)) (star key))).toList))) (deC key nonce bs (n / 16)) _ _ _ _ s.1 ((n / 16) * 16) s.2.1 (deT key nonce bs (n / 16)) s.2.2 _ (by rw [xorb_len]; (try simp) <;> omega) (by omega) (Cel.lb (l := xorb ((bs).drop ((n / 16) * 16)) ((enc key (xorV (crO key nonce (n / 16)) (star key))).toList)) (hS.get 1 rfl)) (hS.get 8 rfl) (hS.get 7 rfl) hO (fun p hp => (hS.own p (by simp [hp])).2) (St.nd2 (A := [(b16, .cells (BV (padV (xorb ((bs).drop ((n / 16) * 16)) ((enc key (xorV (crO key nonce (n / 16)) (star key))).toList)))) 35), (q63, .cells (LB (xorb ((bs).drop ((n / 16) * 16)) ((enc key (xorV (crO key nonce (n / 16)) (star key))).toList))) 5), (b14, .cells (BV (enc key (xorV (crO key nonce (n / 16)) (star key)))) 35), (D, .deferred (some [])), (b23, .cells (#[(.slice a n cap)]) 22), (b9, .cells (#[.func (.func 72) #[] #[Ptr b6 0, Ptr b7 0]]) 118), (b8, .cells (BV (xorV (crO key nonce (n / 16)) (star key))) 35), (b7, .cells (BV (deC key nonce bs (n / 16))) 35), (b6, .cells (#[.slice s.1 ((n / 16) * 16) s.2.1]) 22), (b4, .cells (BV nonce) 79), (b3, .cells (#[Ptr t 0]) 38)]) (R := []) (i := 8) (j := 7) hS rfl rfl)) ?_
          rintro _ w ⟨a72, c72, X72, ⟨v72, rfl⟩, hO72, hS1⟩
          refine ⟨_, rfl, ?_⟩
          have hS : St w0 [] ([(b16, .cells (BV (padV (xorb ((bs).drop ((n / 16) * 16)) ((enc key (xorV (crO key nonce (n / 16)) (star key))).toList)))) 35), (q63, .cells (LB (xorb ((bs).drop ((n / 16) * 16)) ((enc key (xorV (crO key nonce (n / 16)) (star key))).toList))) 5), (b14, .cells (BV (enc key (xorV (crO key nonce (n / 16)) (star key)))) 35), (D, .deferred (some [])), (b23, .cells (#[(.slice a n cap)]) 22), (b9, .cells (#[.func (.func 72) #[] #[Ptr b6 0, Ptr b7 0]]) 118), (b8, .cells (BV (xorV (crO key nonce (n / 16)) (star key))) 35), (b7, .cells (BV (xorV (deC key nonce bs (n / 16)) (padV (xorb ((bs).drop ((n / 16) * 16)) ((enc key (xorV (crO key nonce (n / 16)) (star key))).toList))))) 35), (b6, .cells (#[.slice a72 (((n / 16) * 16) + (min (n - ((n / 16) * 16)) 16)) c72]) 22), (b4, .cells (BV nonce) 79), (b3, .cells (#[Ptr t 0]) 38)] ++ (X72 ++ [])) w := St.call_out2 (A := [(b16, .cells (BV (padV (xorb ((bs).drop ((n / 16) * 16)) ((enc key (xorV (crO key nonce (n / 16)) (star key))).toList)))) 35), (q63, .cells (LB (xorb ((bs).drop ((n / 16) * 16)) ((enc key (xorV (crO key nonce (n / 16)) (star key))).toList))) 5), (b14, .cells (BV (enc key (xorV (crO key nonce (n / 16)) (star key)))) 35), (D, .deferred (some [])), (b23, .cells (#[(.slice a n cap)]) 22), (b9, .cells (#[.func (.func 72) #[] #[Ptr b6 0, Ptr b7 0]]) 118), (b8, .cells (BV (xorV (crO key nonce (n / 16)) (star key))) 35), (b7, .cells (BV (deC key nonce bs (n / 16))) 35), (b6, .cells (#[.slice s.1 ((n / 16) * 16) s.2.1]) 22), (b4, .cells (BV nonce) 79), (b3, .cells (#[Ptr t 0]) 38)]) (A2 := [(b16, .cells (BV (padV (xorb ((bs).drop ((n / 16) * 16)) ((enc key (xorV (crO key nonce (n / 16)) (star key))).toList)))) 35), (q63, .cells (LB (xorb ((bs).drop ((n / 16) * 16)) ((enc key (xorV (crO key nonce (n / 16)) (star key))).toList))) 5), (b14, .cells (BV (enc key (xorV (crO key nonce (n / 16)) (star key)))) 35), (D, .deferred (some [])), (b23, .cells (#[(.slice a n cap)]) 22), (b9, .cells (#[.func (.func 72) #[] #[Ptr b6 0, Ptr b7 0]]) 118), (b8, .cells (BV (xorV (crO key nonce (n / 16)) (star key))) 35), (b7, .cells (BV (xorV (deC key nonce bs (n / 16)) (padV (xorb ((bs).drop ((n / 16) * 16)) ((enc key (xorV (crO key nonce (n / 16)) (star key))).toList))))) 35), (b6, .cells (#[.slice a72 (((n / 16) * 16) + (min (n - ((n / 16) * 16)) 16)) c72]) 22), (b4, .cells (BV nonce) 79), (b3, .cells (#[Ptr t 0]) 38)]) (i := 8) (j := 7) hS rfl rfl rfl rfl rfl hS1
          refine wq_then ?_
          refine rd mo 5 (fun w => St w0 [] ([(b16, .cells (BV (padV (xorb ((bs).drop ((n / 16) * 16)) ((enc key (xorV (crO key nonce (n / 16)) (star key))).toList)))) 35), (q63, .cells (LB (xorb ((bs).drop ((n / 16) * 16)) ((enc key (xorV (crO key nonce (n / 16)) (star key))).toList))) 5), (b14, .cells (BV (enc key (xorV (crO key nonce (n / 16)) (star key)))) 35), (D, .deferred (some [])), (b23, .cells (#[(.slice a n cap)]) 22), (b9, .cells (#[.func (.func 72) #[] #[Ptr b6 0, Ptr b7 0]]) 118), (b8, .cells (BV (xorV (crO key nonce (n / 16)) (star key))) 35), (b7, .cells (BV (xorV (deC key nonce bs (n / 16)) (padV (xorb ((bs).drop ((n / 16) * 16)) ((enc key (xorV (crO key nonce (n / 16)) (star key))).toList))))) 35), (b6, .cells (#[.slice a72 (((n / 16) * 16) + (min (n - ((n / 16) * 16)) 16)) c72]) 22), (b4, .cells (BV nonce) 79), (b3, .cells (#[Ptr t 0]) 38)] ++ (X72 ++ [])) w) ?_
          have hS := hS.drew
          refine dq 0 rfl (by kernel_rfl) (by kernel_rfl) (by kernel_rfl) rfl rfl (fun w hS => lo 8 sc22 hS rfl rfl rfl rfl rfl ⟨rfl, rfl⟩) hS ?_
          refine dq 1 rfl (by kernel_rfl) (by kernel_rfl) (by kernel_rfl) rfl rfl (fun w hS => la 7 ag35 hS rfl rfl rfl rfl (BV_size _) ⟨rfl, rfl⟩) hS ?_
          refine dq 2 rfl (by kernel_rfl) (by kernel_rfl) (by kernel_rfl) rfl rfl (fun w hS => la 6 ag35 hS rfl rfl rfl rfl (BV_size _) ⟨rfl, rfl⟩) hS ?_
          refine dl 3 rfl (by kernel_rfl) ?_
          refine st 8 sz22 hS rfl rfl rfl rfl rfl rfl Nat.zero_lt_one rfl ?_
          intro w hS
          refine ⟨fun _ => hS, ?_⟩
          refine dl 4 rfl (by kernel_rfl) ?_
          refine sa 7 ag35 hS rfl rfl rfl (BV_one _) rfl (BV_size _) (BV_size _) ?_
          intro w hS
          refine ⟨fun _ => hS, ?_⟩
          refine dl 5 rfl (by kernel_rfl) ?_
          refine sa 6 ag35 hS rfl rfl rfl (BV_one _) rfl (BV_size _) (BV_size _) ?_
          intro w hS
          refine ⟨fun h => (by cases h), ?_⟩
          refine de (by kernel_rfl) ?_
          refine wq_then ?_
          refine wc_ret ?_
          refine finM3 (v := .slice a72 (((n / 16) * 16) + (min (n - ((n / 16) * 16)) 16)) c72) (u := .agg (BV (xorV (deC key nonce bs (n / 16)) (padV (xorb ((bs).drop ((n / 16) * 16)) ((enc key (xorV (crO key nonce (n / 16)) (star key))).toList)))))) (x := .agg (BV (xorV (crO key nonce (n / 16)) (star key)))) 3 hS rfl rfl rfl (fun w hS => ⟨_, rfl, lv_c sc22 (hS.get 8 rfl) rfl⟩) (fun w hS => ⟨_, rfl, lv_a ag35 (hS.get 7 rfl) (BV_size _)⟩) (fun w hS => ⟨_, rfl, lv_a ag35 (hS.get 6 rfl) (BV_size _)⟩) (fun w hS => ?_)
          exact ⟨_, _, rfl, ⟨_, _, dec_r1 hn hz _ (by omega), dec_r2 hn hz _ (by omega) hO72⟩, hS.sublist (.cons _ (.cons _ (.cons _ (.cons _ (.cons _ (.cons _ (.cons _ (.cons _ (.cons _ (.cons _ (.cons _ (List.sublist_append_left X72 []))))))))))))⟩
      · skip
        refine ala zr35 hS rfl rfl ?_
        intro b14 w hb14 hS
        refine ⟨fun _ => hS.tl, ?_⟩
        refine dl 1 rfl (by kernel_rfl) ?_
        refine cv cf67 hS rfl rfl rfl rfl rfl (sp_table_Table_Cipher (t) (c) (key) _ (hT.st hS)) ?_
        intro w hS
        refine ⟨fun _ => hS.tl, ?_⟩
        refine dl 3 rfl (by kernel_rfl) ?_
        refine cv cf25 hS rfl rfl rfl rfl rfl (sp_fast_Cipher_Encrypt (c) (_) (key) ((xorV (crO key nonce (n / 16)) (star key))) _ (hS.old hC List.not_mem_nil)) ?_
        intro w hS
        refine ⟨fun _ => hS.tl, ?_⟩
        refine dl 5 rfl (by kernel_rfl) ?_
        refine sa 0 ag35 hS rfl rfl rfl (BV_one _) rfl (BV_size _) (BV_size _) ?_
        intro w hS
        refine ⟨fun h => (by cases h), ?_⟩
        refine de (by kernel_rfl) ?_
        refine wq_then ?_
        refine rg ?_
        refine mv rfl rfl rfl ?_
        refine a_all Tryd.underlying35 ⟨_, sz5⟩ rfl rfl rfl ?_
        refine cs cf74 hS rfl rfl rfl rfl rfl (sp_bits_Xor ((sla a ((n / 16) * 16) cap)) ((n - ((n / 16) * 16))) ((cap - ((n / 16) * 16))) (((bs).drop ((n / 16) * 16))) ((some ⟨b14, 0, none⟩)) (16) (16) (((enc key (xorV (crO key nonce (n / 16)) (star key))).toList)) _ (by first | rfl | omega | (simp; omega) | (simp; done)) (by omega) ((hc.st hS).drop8 (lo := (n / 16) * 16) (cap := cap) (by first | omega | (simp; omega) | simp)) Vector.length_toList (by omega) (Cel.bv (hS.get 0 rfl))) ?_
        rintro _ _ w ⟨q63, rfl, rfl⟩ hS
        refine asg rfl rfl rfl ?_
        refine wq_then ?_
        refine rg ?_
        refine mv rfl rfl rfl ?_
        refine cv cf69 hS rfl rfl rfl rfl rfl (sp_block_Pad ((some ⟨q63, 0, none⟩)) ((min (n - ((n / 16) * 16)) 16)) ((min (n - ((n / 16) * 16)) 16)) ((xorb ((bs).drop ((n / 16) * 16)) ((enc key (xorV (crO key nonce (n / 16)) (star key))).toList))) _ (by rw [xorb_len]; (try simp) <;> omega) (by omega) (Cel.lb (l := xorb ((bs).drop ((n / 16) * 16)) ((enc key (xorV (crO key nonce (n / 16)) (star key))).toList)) (hS.get 0 rfl)) (by omega)) ?_
        intro w hS
        refine mv rfl rfl rfl ?_
        refine ext rfl rfl rfl rfl ?_
        refine ext rfl rfl rfl rfl ?_
        refine ala zr35 hS rfl rfl ?_
        intro b16 w hb16 hS
        refine sa 0 ag35 hS rfl rfl rfl (BV_one _) rfl (BV_size _) (BV_size _) ?_
        intro w hS
        refine asg rfl rfl rfl ?_
        refine wq_then ?_
        refine rg ?_
        refine lo 5 sc118 hS rfl rfl rfl rfl rfl ?_
        refine mv rfl rfl rfl ?_
        refine la 0 ag35 hS rfl rfl rfl rfl (BV_size _) ?_
        refine cl cf72 rfl rfl rfl rfl rfl (sp_open_Decrypt_1 (some ⟨q63, 0, none⟩) (min (n - ((n / 16) * 16)) 16) (min (n - ((n / 16) * 16)) 16) (xorb ((bs).drop ((n / 16) * 16)) ((enc key (xorV (crO key nonce (n / 16)) (star key))).toList)) (padV (xorb ((bs).drop ((n / 16) * 16)) ((enc key (xorV (crO key nonce (n / 16)) (star key))).toList))) (deC key nonce bs (n / 16)) _ _ _ _ s.1 ((n / 16) * 16) s.2.1 (deT key nonce bs (n / 16)) s.2.2 _ (by rw [xorb_len]; (try simp) <;> omega) (by omega) (Cel.lb (l := xorb ((bs).drop ((n / 16) * 16)) ((enc key (xorV (crO key nonce (n / 16)) (star key))).toList)) (hS.get 1 rfl)) (hS.get 8 rfl) (hS.get 7 rfl) hO (fun p hp => (hS.own p (by simp [hp])).2) (St.nd2 (A := [(b16, .cells (BV (padV (xorb ((bs).drop ((n / 16) * 16)) ((enc key (xorV (crO key nonce (n / 16)) (star key))).toList)))) 35), (q63, .cells (LB (xorb ((bs).drop ((n / 16) * 16)) ((enc key (xorV (crO key nonce (n / 16)) (star key))).toList))) 5), (b14, .cells (BV (enc key (xorV (crO key nonce (n / 16)) (star key)))) 35), (D, .deferred (some [])), (b23, .cells (#[(.slice a n cap)]) 22), (b9, .cells (#[.func (.func 72) #[] #[Ptr b6 0, Ptr b7 0]]) 118), (b8, .cells (BV (xorV (crO key nonce (n / 16)) (star key))) 35), (b7, .cells (BV (deC key nonce bs (n / 16))) 35), (b6, .cells (#[.slice s.1 ((n / 16) * 16) s.2.1]) 22), (b4, .cells (BV nonce) 79), (b3, .cells (#[Ptr t 0]) 38)]) (R := []) (i := 8) (j := 7) hS rfl rfl)) ?_
        rintro _ w ⟨a72, c72, X72, ⟨v72, rfl⟩, hO72, hS1⟩
        refine ⟨_, rfl, ?_⟩
        have hS : St w0 [] ([(b16, .cells (BV (padV (xorb ((bs).drop ((n / 16) * 16)) ((enc key (xorV (crO key nonce (n / 16)) (star key))).toList)))) 35), (q63, .cells (LB (xorb ((bs).drop ((n / 16) * 16)) ((enc key (xorV (crO key nonce (n / 16)) (star key))).toList))) 5), (b14, .cells (BV (enc key (xorV (crO key nonce (n / 16)) (star key)))) 35), (D, .deferred (some [])), (b23, .cells (#[(.slice a n cap)]) 22), (b9, .cells (#[.func (.func 72) #[] #[Ptr b6 0, Ptr b7 0]]) 118), (b8, .cells (BV (xorV (crO key nonce (n / 16)) (star key))) 35), (b7, .cells (BV (xorV (deC key nonce bs (n / 16)) (padV (xorb ((bs).drop ((n / 16) * 16)) ((enc key (xorV (crO key nonce (n / 16)) (star key))).toList))))) 35), (b6, .cells (#[.slice a72 (((n / 16) * 16) + (min (n - ((n / 16) * 16)) 16)) c72]) 22), (b4, .cells (BV nonce) 79), (b3, .cells (#[Ptr t 0]) 38)] ++ (X72 ++ [])) w := St.call_out2 (A := [(b16, .cells (BV (padV (xorb ((bs).drop ((n / 16) * 16)) ((enc key (xorV (crO key nonce (n / 16)) (star key))).toList)))) 35), (q63, .cells (LB (xorb ((bs).drop ((n / 16) * 16)) ((enc key (xorV (crO key nonce (n / 16)) (star key))).toList))) 5), (b14, .cells (BV (enc key (xorV (crO key nonce (n / 16)) (star key)))) 35), (D, .deferred (some [])), (b23, .cells (#[(.slice a n cap)]) 22), (b9, .cells (#[.func (.func 72) #[] #[Ptr b6 0, Ptr b7 0]]) 118), (b8, .cells (BV (xorV (crO key nonce (n / 16)) (star key))) 35), (b7, .cells (BV (deC key nonce bs (n / 16))) 35), (b6, .cells (#[.slice s.1 ((n / 16) * 16) s.2.1]) 22), (b4, .cells (BV nonce) 79), (b3, .cells (#[Ptr t 0]) 38)]) (A2 := [(b16, .cells (BV (padV (xorb ((bs).drop ((n / 16) * 16)) ((enc key (xorV (crO key nonce (n / 16)) (star key))).toList)))) 35), (q63, .cells (LB (xorb ((bs).drop ((n / 16) * 16)) ((enc key (xorV (crO key nonce (n / 16)) (star key))).toList))) 5), (b14, .cells (BV (enc key (xorV (crO key nonce (n / 16)) (star key)))) 35), (D, .deferred (some [])), (b23, .cells (#[(.slice a n cap)]) 22), (b9, .cells (#[.func (.func 72) #[] #[Ptr b6 0, Ptr b7 0]]) 118), (b8, .cells (BV (xorV (crO key nonce (n / 16)) (star key))) 35), (b7, .cells (BV (xorV (deC key nonce bs (n / 16)) (padV (xorb ((bs).drop ((n / 16) * 16)) ((enc key (xorV (crO key nonce (n / 16)) (star key))).toList))))) 35), (b6, .cells (#[.slice a72 (((n / 16) * 16) + (min (n - ((n / 16) * 16)) 16)) c72]) 22), (b4, .cells (BV nonce) 79), (b3, .cells (#[Ptr t 0]) 38)]) (i := 8) (j := 7) hS rfl rfl rfl rfl rfl hS1
        refine wq_then ?_
        refine rd mo 5 (fun w => St w0 [] ([(b16, .cells (BV (padV (xorb ((bs).drop ((n / 16) * 16)) ((enc key (xorV (crO key nonce (n / 16)) (star key))).toList)))) 35), (q63, .cells (LB (xorb ((bs).drop ((n / 16) * 16)) ((enc key (xorV (crO key nonce (n / 16)) (star key))).toList))) 5), (b14, .cells (BV (enc key (xorV (crO key nonce (n / 16)) (star key)))) 35), (D, .deferred (some [])), (b23, .cells (#[(.slice a n cap)]) 22), (b9, .cells (#[.func (.func 72) #[] #[Ptr b6 0, Ptr b7 0]]) 118), (b8, .cells (BV (xorV (crO key nonce (n / 16)) (star key))) 35), (b7, .cells (BV (xorV (deC key nonce bs (n / 16)) (padV (xorb ((bs).drop ((n / 16) * 16)) ((enc key (xorV (crO key nonce (n / 16)) (star key))).toList))))) 35), (b6, .cells (#[.slice a72 (((n / 16) * 16) + (min (n - ((n / 16) * 16)) 16)) c72]) 22), (b4, .cells (BV nonce) 79), (b3, .cells (#[Ptr t 0]) 38)] ++ (X72 ++ [])) w) ?_
        have hS := hS.drew
        refine dq 0 rfl (by kernel_rfl) (by kernel_rfl) (by kernel_rfl) rfl rfl (fun w hS => lo 8 sc22 hS rfl rfl rfl rfl rfl ⟨rfl, rfl⟩) hS ?_
        refine dq 1 rfl (by kernel_rfl) (by kernel_rfl) (by kernel_rfl) rfl rfl (fun w hS => la 7 ag35 hS rfl rfl rfl rfl (BV_size _) ⟨rfl, rfl⟩) hS ?_
        refine dq 2 rfl (by kernel_rfl) (by kernel_rfl) (by kernel_rfl) rfl rfl (fun w hS => la 6 ag35 hS rfl rfl rfl rfl (BV_size _) ⟨rfl, rfl⟩) hS ?_
        refine dl 3 rfl (by kernel_rfl) ?_
        refine st 8 sz22 hS rfl rfl rfl rfl rfl rfl Nat.zero_lt_one rfl ?_
        intro w hS
        refine ⟨fun _ => hS, ?_⟩
        refine dl 4 rfl (by kernel_rfl) ?_
        refine sa 7 ag35 hS rfl rfl rfl (BV_one _) rfl (BV_size _) (BV_size _) ?_
        intro w hS
        refine ⟨fun _ => hS, ?_⟩
        refine dl 5 rfl (by kernel_rfl) ?_
        refine sa 6 ag35 hS rfl rfl rfl (BV_one _) rfl (BV_size _) (BV_size _) ?_
        intro w hS
        refine ⟨fun h => (by cases h), ?_⟩
        refine de (by kernel_rfl) ?_
        refine wq_then ?_
        refine wc_ret ?_
        refine finM3 (v := .slice a72 (((n / 16) * 16) + (min (n - ((n / 16) * 16)) 16)) c72) (u := .agg (BV (xorV (deC key nonce bs (n / 16)) (padV (xorb ((bs).drop ((n / 16) * 16)) ((enc key (xorV (crO key nonce (n / 16)) (star key))).toList)))))) (x := .agg (BV (xorV (crO key nonce (n / 16)) (star key)))) 3 hS rfl rfl rfl (fun w hS => ⟨_, rfl, lv_c sc22 (hS.get 8 rfl) rfl⟩) (fun w hS => ⟨_, rfl, lv_a ag35 (hS.get 7 rfl) (BV_size _)⟩) (fun w hS => ⟨_, rfl, lv_a ag35 (hS.get 6 rfl) (BV_size _)⟩) (fun w hS => ?_)
        exact ⟨_, _, rfl, ⟨_, _, dec_r1 hn hz _ (by omega), dec_r2 hn hz _ (by omega) hO72⟩, hS.sublist (.cons _ (.cons _ (.cons _ (.cons _ (.cons _ (.cons _ (.cons _ (.cons _ (.cons _ (.cons _ (.cons _ (List.sublist_append_left X72 []))))))))))))⟩
end Go.Proofs.XX

/- walks -/
namespace Go.Proofs.XX
open Go Go.X Go.Proofs
set_option maxRecDepth 100000 in
theorem sp_open_Open (t c : Nat) (key : V8 16) (nonce : V8 12) (a : Option Addr) (n cap : Nat) (bs : List UInt8) (a2 : Option Addr) (n2 cap2 : Nat) (bs2 : List UInt8) (w0 : World) (hT : TabAt w0 t c key) (hn : bs.length = n) (hN : n ≤ 1000000) (hc : Cel w0 a (c8 bs)) (hcap : n ≤ cap) (hn2 : bs2.length = n2) (hN2 : n2 ≤ 1000000) (he2 : Cel w0 a2 (c8 bs2)) (hcap2 : n2 ≤ cap2) (hG : Gl 0 w0) : Calls Tryd.prog 37 #[Ptr t 0, .agg (BV nonce), .slice a2 n2 cap2, .slice a n cap] w0 (RetS w0 (fun v X => ∃ a' n' c', v = .tuple #[.slice a' n' c', errV 46 (opnE key nonce bs2 bs)] ∧ Own 1 a' n' c' (c8 (if opnE key nonce bs2 bs = 0 then opnT key nonce bs else [])) X)) := by
  refine enter (args := [Ptr t 0, .agg (BV nonce), .slice a2 n2 cap2, .slice a n cap]) Tryd.func37 rfl rfl ?_
  refine startw fun w hS => ?_
  obtain ⟨⟨T, hT1⟩, E, hC⟩ := id hT
  refine rg ?_
  refine bxa hS rfl rfl rfl ?_
  intro b5 w hb5 hS
  refine asg rfl rfl rfl ?_
  refine asg rfl rfl rfl ?_
  refine wq_then ?_
  refine rg ?_
  refine mv rfl rfl rfl ?_
  refine lens Tryd.underlying22 rfl rfl rfl ?_
  refine subi (by omega) (by omega) rfl rfl rfl rfl ?_
  refine asg rfl rfl rfl ?_
  refine wq_then ?_
  refine wc_seq ?_
  refine rg ?_
  refine mv rfl rfl rfl ?_
  refine lss rfl rfl rfl rfl ?_
  refine wq_then ?_
  refine wc_if rfl (fun hc1 => ?_) (fun hc1 => ?_)
  · skip
    try simp only [SB] at hc1
    refine rg ?_
    refine mki cc46 rfl rfl rfl ?_
    refine asg rfl rfl rfl ?_
    refine asg rfl rfl rfl ?_
    refine wq_then ?_
    refine wc_ret ?_
    refine q_then_ret ?_
    refine fin2 (v := (.slice none 0 0)) (u := (.iface 46 (I (1)))) rfl rfl rfl ?_
    have he : opnE key nonce bs2 bs = 1 := opnE_s hn (by omega)
    exact ⟨_, [], rfl, ⟨none, 0, 0, opn_e (by decide) he, opn_o (by decide) he⟩, hS.drop⟩
  · skip
    try simp only [SB] at hc1
    refine wc_skip ?_
    refine wq_then ?_
    refine rd mo 14 (fun w => St w0 [] [(b5, .cells (BV nonce) 79)] w) ?_
    have hS := hS.drew
    refine dq 0 rfl (by kernel_rfl) (by kernel_rfl) (by kernel_rfl) rfl rfl (fun w hS => mv rfl rfl rfl ⟨rfl, rfl⟩) hS ?_
    refine dq 1 rfl (by kernel_rfl) (by kernel_rfl) (by kernel_rfl) rfl rfl (fun w hS => la 0 ag79 hS rfl rfl rfl rfl (BV_size _) ⟨rfl, rfl⟩) hS ?_
    refine dq 2 rfl (by kernel_rfl) (by kernel_rfl) (by kernel_rfl) rfl rfl (fun w hS => mv rfl rfl rfl ⟨rfl, rfl⟩) hS ?_
    refine dq 3 rfl (by kernel_rfl) (by kernel_rfl) (by kernel_rfl) rfl rfl (fun w hS => mv rfl rfl rfl ⟨rfl, rfl⟩) hS ?_
    refine dq 4 rfl (by kernel_rfl) (by kernel_rfl) (by kernel_rfl) rfl rfl (fun w hS => s_h ((n - 16)) Tryd.underlying22 ⟨_, sz5⟩ rfl rfl rfl rfl (by omega) (by omega) ⟨rfl, rfl⟩) hS ?_
    refine dl3 5 10 11 rfl rfl rfl (by kernel_rfl) ?_ ?_ ?_
    · skip
      refine cs cf50 hS rfl rfl rfl rfl rfl (sp_open_Decrypt (t) (c) (key) (nonce) (a) ((n - 16)) (cap) (((bs).take (n - 16))) _ (hT.st hS) (by first | rfl | omega | (simp; omega) | (simp; done)) (by omega) ((hc.st hS).take8 (n - 16)) (by omega) (hG.st hS)) ?_
      rintro _ X27 w ⟨a27, c27, rfl, hO27⟩ hS
      have hS := St.tailin (X := X27) hS [(b5, .cells (BV nonce) 79)] [] rfl
      refine ⟨fun _ => (St.untail (A := [(b5, .cells (BV nonce) 79)]) (X := X27) (R := []) hS), ?_⟩
      refine dq 6 rfl (by kernel_rfl) (by kernel_rfl) (by kernel_rfl) rfl rfl (fun w hS => mv rfl rfl rfl ⟨rfl, rfl⟩) (St.untail (A := [(b5, .cells (BV nonce) 79)]) (X := X27) (R := []) hS) ?_
      refine dq 7 rfl (by kernel_rfl) (by kernel_rfl) (by kernel_rfl) rfl rfl (fun w hS => ext rfl rfl rfl rfl ⟨rfl, rfl⟩) (St.untail (A := [(b5, .cells (BV nonce) 79)]) (X := X27) (R := []) hS) ?_
      refine dq 8 rfl (by kernel_rfl) (by kernel_rfl) (by kernel_rfl) rfl rfl (fun w hS => ext rfl rfl rfl rfl ⟨rfl, rfl⟩) (St.untail (A := [(b5, .cells (BV nonce) 79)]) (X := X27) (R := []) hS) ?_
      refine dq 9 rfl (by kernel_rfl) (by kernel_rfl) (by kernel_rfl) rfl rfl (fun w hS => ext rfl rfl rfl rfl ⟨rfl, rfl⟩) (St.untail (A := [(b5, .cells (BV nonce) 79)]) (X := X27) (R := []) hS) ?_
      refine dl2 10 11 rfl rfl (by kernel_rfl) ?_ ?_
      · skip
        refine ala zr35 hS rfl rfl ?_
        intro b12 w hb12 hS
        refine ⟨fun _ => (St.untail (A := [(b12, .cells (BV (Vector.replicate 16 0)) 35), (b5, .cells (BV nonce) 79)]) (X := X27) (R := []) hS).tl, ?_⟩
        refine dl 11 rfl (by kernel_rfl) ?_
        refine ala zr35 hS rfl rfl ?_
        intro b13 w hb13 hS
        refine ⟨fun _ => (St.untail (A := [(b13, .cells (BV (Vector.replicate 16 0)) 35), (b12, .cells (BV (Vector.replicate 16 0)) 35), (b5, .cells (BV nonce) 79)]) (X := X27) (R := []) hS).tl.tl, ?_⟩
        refine dq 12 rfl (by kernel_rfl) (by kernel_rfl) (by kernel_rfl) rfl rfl (fun w hS => asg rfl rfl rfl ⟨rfl, rfl⟩) (St.untail (A := [(b13, .cells (BV (Vector.replicate 16 0)) 35), (b12, .cells (BV (Vector.replicate 16 0)) 35), (b5, .cells (BV nonce) 79)]) (X := X27) (R := []) hS).tl.tl ?_
        refine dl 13 rfl (by kernel_rfl) ?_
        refine sa 1 ag35 hS rfl rfl rfl (BV_one _) rfl (BV_size _) (BV_size _) ?_
        intro w hS
        refine ⟨fun _ => (St.untail (A := [(b13, .cells (BV (Vector.replicate 16 0)) 35), (b12, .cells (BV (decC key nonce ((bs).take (n - 16)))) 35), (b5, .cells (BV nonce) 79)]) (X := X27) (R := []) hS).tl.tl, ?_⟩
        refine dl 14 rfl (by kernel_rfl) ?_
        refine sa 0 ag35 hS rfl rfl rfl (BV_one _) rfl (BV_size _) (BV_size _) ?_
        intro w hS
        refine ⟨fun h => (by cases h), ?_⟩
        refine de (by kernel_rfl) ?_
        refine wq_then ?_
        refine rg ?_
        refine mv rfl rfl rfl ?_
        refine la 1 ag35 hS rfl rfl rfl rfl (BV_size _) ?_
        refine la 0 ag35 hS rfl rfl rfl rfl (BV_size _) ?_
        refine mv rfl rfl rfl ?_
        refine cv cf49 hS rfl rfl rfl rfl rfl (sp_seal_Tag (t) (c) (key) ((decC key nonce ((bs).take (n - 16)))) ((cryO key nonce (n - 16))) (a2) (n2) (cap2) (bs2) _ (hT.st hS) (by first | rfl | omega | (simp; omega) | (simp; done)) (by omega) (he2.st hS) (by omega) (hG.st hS)) ?_
        intro w hS
        refine ala zr35 hS rfl rfl ?_
        intro b14 w hb14 hS
        refine sa 0 ag35 hS rfl rfl rfl (BV_one _) rfl (BV_size _) (BV_size _) ?_
        intro w hS
        refine wq_then ?_
        refine wc_seq ?_
        refine rd mo 6 (fun w => St w0 [] ([(b14, .cells (BV (tagV key (decC key nonce ((bs).take (n - 16))) (cryO key nonce (n - 16)) bs2)) 35), (b13, .cells (BV (cryO key nonce (n - 16))) 35), (b12, .cells (BV (decC key nonce ((bs).take (n - 16)))) 35), (b5, .cells (BV nonce) 79)] ++ (X27 ++ [])) w) ?_
        have hS := hS.drew
        refine dq 0 rfl (by kernel_rfl) (by kernel_rfl) (by kernel_rfl) rfl rfl (fun w hS => a_all Tryd.underlying35 ⟨_, sz5⟩ rfl rfl rfl ⟨rfl, rfl⟩) hS ?_
        refine dq 1 rfl (by kernel_rfl) (by kernel_rfl) (by kernel_rfl) rfl rfl (fun w hS => mv rfl rfl rfl ⟨rfl, rfl⟩) hS ?_
        refine dq 2 rfl (by kernel_rfl) (by kernel_rfl) (by kernel_rfl) rfl rfl (fun w hS => mv rfl rfl rfl ⟨rfl, rfl⟩) hS ?_
        refine dq 3 rfl (by kernel_rfl) (by kernel_rfl) (by kernel_rfl) rfl rfl (fun w hS => s_l ((n - 16)) Tryd.underlying22 sz5 rfl rfl rfl rfl (by omega) (by omega) ⟨rfl, rfl⟩) hS ?_
        refine dl 4 rfl (by kernel_rfl) ?_
        refine cv cf51 hS rfl rfl rfl rfl rfl (sp_bits_Equal ((some ⟨b14, 0, none⟩)) (16) (16) (((tagV key (decC key nonce ((bs).take (n - 16))) (cryO key nonce (n - 16)) bs2).toList)) ((sla a (n - 16) cap)) ((n - (n - 16))) ((cap - (n - 16))) (((bs).drop (n - 16))) _ Vector.length_toList (by omega) (Cel.bv (hS.get 0 rfl)) (by first | rfl | omega | (simp; omega) | (simp; done)) (by omega) ((hc.st hS).drop8 (lo := (n - 16)) (cap := cap) (by first | omega | (simp; omega) | simp))) ?_
        intro w hS
        refine ⟨fun _ => hS, ?_⟩
        refine dq 5 rfl (by kernel_rfl) (by kernel_rfl) (by kernel_rfl) rfl rfl (fun w hS => notb rfl rfl rfl ⟨rfl, rfl⟩) hS ?_
        refine de (by kernel_rfl) ?_
        refine wq_then ?_
        refine wc_if rfl (fun hc2 => ?_) (fun hc2 => ?_)
        · skip
          try simp only [SB] at hc2
          have he0 := hc2
          refine rg ?_
          refine mki cc46 rfl rfl rfl ?_
          refine asg rfl rfl rfl ?_
          refine asg rfl rfl rfl ?_
          refine wq_then ?_
          refine wc_ret ?_
          refine q_then_ret ?_
          refine fin2 (v := (.slice none 0 0)) (u := (.iface 46 (I (3)))) rfl rfl rfl ?_
          have he : opnE key nonce bs2 bs = 3 := opnE_f hn (by omega) he0
          exact ⟨_, [], rfl, ⟨none, 0, 0, opn_e (by decide) he, opn_o (by decide) he⟩, hS.drop⟩
        · skip
          try simp only [SB] at hc2
          have he0 := hc2
          refine wc_skip ?_
          refine wq_then ?_
          refine rg ?_
          refine mv rfl rfl rfl ?_
          refine asg rfl rfl rfl ?_
          refine asg rfl rfl rfl ?_
          refine wq_then ?_
          refine wc_ret ?_
          refine fin2 (v := .slice a27 (n - 16) c27) (u := .nilIface) rfl rfl rfl ?_
          have he : opnE key nonce bs2 bs = 0 := opnE_t hn (by omega) he0
          exact ⟨_, X27, rfl, ⟨_, _, _, opn_e0 he, opn_o0 hn he hO27⟩, hS.sublist (.cons _ (.cons _ (.cons _ (.cons _ (List.sublist_append_left X27 [])))))⟩
      · skip
        refine ala zr35 hS rfl rfl ?_
        intro b13 w hb13 hS
        refine ⟨fun _ => (St.untail (A := [(b13, .cells (BV (Vector.replicate 16 0)) 35), (b5, .cells (BV nonce) 79)]) (X := X27) (R := []) hS).tl, ?_⟩
        refine dl 10 rfl (by kernel_rfl) ?_
        refine ala zr35 hS rfl rfl ?_
        intro b12 w hb12 hS
        refine ⟨fun _ => (St.untail (A := [(b12, .cells (BV (Vector.replicate 16 0)) 35), (b13, .cells (BV (Vector.replicate 16 0)) 35), (b5, .cells (BV nonce) 79)]) (X := X27) (R := []) hS).tl.tl, ?_⟩
        refine dq 12 rfl (by kernel_rfl) (by kernel_rfl) (by kernel_rfl) rfl rfl (fun w hS => asg rfl rfl rfl ⟨rfl, rfl⟩) (St.untail (A := [(b12, .cells (BV (Vector.replicate 16 0)) 35), (b13, .cells (BV (Vector.replicate 16 0)) 35), (b5, .cells (BV nonce) 79)]) (X := X27) (R := []) hS).tl.tl ?_
        refine dl 13 rfl (by kernel_rfl) ?_
        refine sa 0 ag35 hS rfl rfl rfl (BV_one _) rfl (BV_size _) (BV_size _) ?_
        intro w hS
        refine ⟨fun _ => (St.untail (A := [(b12, .cells (BV (decC key nonce ((bs).take (n - 16)))) 35), (b13, .cells (BV (Vector.replicate 16 0)) 35), (b5, .cells (BV nonce) 79)]) (X := X27) (R := []) hS).tl.tl, ?_⟩
        refine dl 14 rfl (by kernel_rfl) ?_
        refine sa 1 ag35 hS rfl rfl rfl (BV_one _) rfl (BV_size _) (BV_size _) ?_
        intro w hS
        refine ⟨fun h => (by cases h), ?_⟩
        refine de (by kernel_rfl) ?_
        refine wq_then ?_
        refine rg ?_
        refine mv rfl rfl rfl ?_
        refine la 0 ag35 hS rfl rfl rfl rfl (BV_size _) ?_
        refine la 1 ag35 hS rfl rfl rfl rfl (BV_size _) ?_
        refine mv rfl rfl rfl ?_
        refine cv cf49 hS rfl rfl rfl rfl rfl (sp_seal_Tag (t) (c) (key) ((decC key nonce ((bs).take (n - 16)))) ((cryO key nonce (n - 16))) (a2) (n2) (cap2) (bs2) _ (hT.st hS) (by first | rfl | omega | (simp; omega) | (simp; done)) (by omega) (he2.st hS) (by omega) (hG.st hS)) ?_
        intro w hS
        refine ala zr35 hS rfl rfl ?_
        intro b14 w hb14 hS
        refine sa 0 ag35 hS rfl rfl rfl (BV_one _) rfl (BV_size _) (BV_size _) ?_
        intro w hS
        refine wq_then ?_
        refine wc_seq ?_
        refine rd mo 6 (fun w => St w0 [] ([(b14, .cells (BV (tagV key (decC key nonce ((bs).take (n - 16))) (cryO key nonce (n - 16)) bs2)) 35), (b12, .cells (BV (decC key nonce ((bs).take (n - 16)))) 35), (b13, .cells (BV (cryO key nonce (n - 16))) 35), (b5, .cells (BV nonce) 79)] ++ (X27 ++ [])) w) ?_
        have hS := hS.drew
        refine dq 0 rfl (by kernel_rfl) (by kernel_rfl) (by kernel_rfl) rfl rfl (fun w hS => a_all Tryd.underlying35 ⟨_, sz5⟩ rfl rfl rfl ⟨rfl, rfl⟩) hS ?_
        refine dq 1 rfl (by kernel_rfl) (by kernel_rfl) (by kernel_rfl) rfl rfl (fun w hS => mv rfl rfl rfl ⟨rfl, rfl⟩) hS ?_
        refine dq 2 rfl (by kernel_rfl) (by kernel_rfl) (by kernel_rfl) rfl rfl (fun w hS => mv rfl rfl rfl ⟨rfl, rfl⟩) hS ?_
        refine dq 3 rfl (by kernel_rfl) (by kernel_rfl) (by kernel_rfl) rfl rfl (fun w hS => s_l ((n - 16)) Tryd.underlying22 sz5 rfl rfl rfl rfl (by omega) (by omega) ⟨rfl, rfl⟩) hS ?_
        refine dl 4 rfl (by kernel_rfl) ?_
        refine cv cf51 hS rfl rfl rfl rfl rfl (sp_bits_Equal ((some ⟨b14, 0, none⟩)) (16) (16) (((tagV key (decC key nonce ((bs).take (n - 16))) (cryO key nonce (n - 16)) bs2).toList)) ((sla a (n - 16) cap)) ((n - (n - 16))) ((cap - (n - 16))) (((bs).drop (n - 16))) _ Vector.length_toList (by omega) (Cel.bv (hS.get 0 rfl)) (by first | rfl | omega | (simp; omega) | (simp; done)) (by omega) ((hc.st hS).drop8 (lo := (n - 16)) (cap := cap) (by first | omega | (simp; omega) | simp))) ?_
        intro w hS
        refine ⟨fun _ => hS, ?_⟩
        refine dq 5 rfl (by kernel_rfl) (by kernel_rfl) (by kernel_rfl) rfl rfl (fun w hS => notb rfl rfl rfl ⟨rfl, rfl⟩) hS ?_
        refine de (by kernel_rfl) ?_
        refine wq_then ?_
        refine wc_if rfl (fun hc3 => ?_) (fun hc3 => ?_)
        · skip
          try simp only [SB] at hc3
          have he0 := hc3
          refine rg ?_
          refine mki cc46 rfl rfl rfl ?_
          refine asg rfl rfl rfl ?_
          refine asg rfl rfl rfl ?_
          refine wq_then ?_
          refine wc_ret ?_
          refine q_then_ret ?_
          refine fin2 (v := (.slice none 0 0)) (u := (.iface 46 (I (3)))) rfl rfl rfl ?_
          have he : opnE key nonce bs2 bs = 3 := opnE_f hn (by omega) he0
          exact ⟨_, [], rfl, ⟨none, 0, 0, opn_e (by decide) he, opn_o (by decide) he⟩, hS.drop⟩
        · skip
          try simp only [SB] at hc3
          have he0 := hc3
          refine wc_skip ?_
          refine wq_then ?_
          refine rg ?_
          refine mv rfl rfl rfl ?_
          refine asg rfl rfl rfl ?_
          refine asg rfl rfl rfl ?_
          refine wq_then ?_
          refine wc_ret ?_
          refine fin2 (v := .slice a27 (n - 16) c27) (u := .nilIface) rfl rfl rfl ?_
          have he : opnE key nonce bs2 bs = 0 := opnE_t hn (by omega) he0
          exact ⟨_, X27, rfl, ⟨_, _, _, opn_e0 he, opn_o0 hn he hO27⟩, hS.sublist (.cons _ (.cons _ (.cons _ (.cons _ (List.sublist_append_left X27 [])))))⟩
    · skip
      refine ala zr35 hS rfl rfl ?_
      intro b12 w hb12 hS
      refine ⟨fun _ => hS.tl, ?_⟩
      refine dl2 5 11 rfl rfl (by kernel_rfl) ?_ ?_
      · skip
        refine cs cf50 hS rfl rfl rfl rfl rfl (sp_open_Decrypt (t) (c) (key) (nonce) (a) ((n - 16)) (cap) (((bs).take (n - 16))) _ (hT.st hS) (by first | rfl | omega | (simp; omega) | (simp; done)) (by omega) ((hc.st hS).take8 (n - 16)) (by omega) (hG.st hS)) ?_
        rintro _ X27 w ⟨a27, c27, rfl, hO27⟩ hS
        have hS := St.tailin (X := X27) hS [(b12, .cells (BV (Vector.replicate 16 0)) 35), (b5, .cells (BV nonce) 79)] [] rfl
        refine ⟨fun _ => (St.untail (A := [(b12, .cells (BV (Vector.replicate 16 0)) 35), (b5, .cells (BV nonce) 79)]) (X := X27) (R := []) hS).tl, ?_⟩
        refine dq 6 rfl (by kernel_rfl) (by kernel_rfl) (by kernel_rfl) rfl rfl (fun w hS => mv rfl rfl rfl ⟨rfl, rfl⟩) (St.untail (A := [(b12, .cells (BV (Vector.replicate 16 0)) 35), (b5, .cells (BV nonce) 79)]) (X := X27) (R := []) hS).tl ?_
        refine dq 7 rfl (by kernel_rfl) (by kernel_rfl) (by kernel_rfl) rfl rfl (fun w hS => ext rfl rfl rfl rfl ⟨rfl, rfl⟩) (St.untail (A := [(b12, .cells (BV (Vector.replicate 16 0)) 35), (b5, .cells (BV nonce) 79)]) (X := X27) (R := []) hS).tl ?_
        refine dq 8 rfl (by kernel_rfl) (by kernel_rfl) (by kernel_rfl) rfl rfl (fun w hS => ext rfl rfl rfl rfl ⟨rfl, rfl⟩) (St.untail (A := [(b12, .cells (BV (Vector.replicate 16 0)) 35), (b5, .cells (BV nonce) 79)]) (X := X27) (R := []) hS).tl ?_
        refine dq 9 rfl (by kernel_rfl) (by kernel_rfl) (by kernel_rfl) rfl rfl (fun w hS => ext rfl rfl rfl rfl ⟨rfl, rfl⟩) (St.untail (A := [(b12, .cells (BV (Vector.replicate 16 0)) 35), (b5, .cells (BV nonce) 79)]) (X := X27) (R := []) hS).tl ?_
        refine dl 11 rfl (by kernel_rfl) ?_
        refine ala zr35 hS rfl rfl ?_
        intro b13 w hb13 hS
        refine ⟨fun _ => (St.untail (A := [(b13, .cells (BV (Vector.replicate 16 0)) 35), (b12, .cells (BV (Vector.replicate 16 0)) 35), (b5, .cells (BV nonce) 79)]) (X := X27) (R := []) hS).tl.tl, ?_⟩
        refine dq 12 rfl (by kernel_rfl) (by kernel_rfl) (by kernel_rfl) rfl rfl (fun w hS => asg rfl rfl rfl ⟨rfl, rfl⟩) (St.untail (A := [(b13, .cells (BV (Vector.replicate 16 0)) 35), (b12, .cells (BV (Vector.replicate 16 0)) 35), (b5, .cells (BV nonce) 79)]) (X := X27) (R := []) hS).tl.tl ?_
        refine dl 13 rfl (by kernel_rfl) ?_
        refine sa 1 ag35 hS rfl rfl rfl (BV_one _) rfl (BV_size _) (BV_size _) ?_
        intro w hS
        refine ⟨fun _ => (St.untail (A := [(b13, .cells (BV (Vector.replicate 16 0)) 35), (b12, .cells (BV (decC key nonce ((bs).take (n - 16)))) 35), (b5, .cells (BV nonce) 79)]) (X := X27) (R := []) hS).tl.tl, ?_⟩
        refine dl 14 rfl (by kernel_rfl) ?_
        refine sa 0 ag35 hS rfl rfl rfl (BV_one _) rfl (BV_size _) (BV_size _) ?_
        intro w hS
        refine ⟨fun h => (by cases h), ?_⟩
        refine de (by kernel_rfl) ?_
        refine wq_then ?_
        refine rg ?_
        refine mv rfl rfl rfl ?_
        refine la 1 ag35 hS rfl rfl rfl rfl (BV_size _) ?_
        refine la 0 ag35 hS rfl rfl rfl rfl (BV_size _) ?_
        refine mv rfl rfl rfl ?_
        refine cv cf49 hS rfl rfl rfl rfl rfl (sp_seal_Tag (t) (c) (key) ((decC key nonce ((bs).take (n - 16)))) ((cryO key nonce (n - 16))) (a2) (n2) (cap2) (bs2) _ (hT.st hS) (by first | rfl | omega | (simp; omega) | (simp; done)) (by omega) (he2.st hS) (by omega) (hG.st hS)) ?_
        intro w hS
        refine ala zr35 hS rfl rfl ?_
        intro b14 w hb14 hS
        refine sa 0 ag35 hS rfl rfl rfl (BV_one _) rfl (BV_size _) (BV_size _) ?_
        intro w hS
        refine wq_then ?_
        refine wc_seq ?_
        refine rd mo 6 (fun w => St w0 [] ([(b14, .cells (BV (tagV key (decC key nonce ((bs).take (n - 16))) (cryO key nonce (n - 16)) bs2)) 35), (b13, .cells (BV (cryO key nonce (n - 16))) 35), (b12, .cells (BV (decC key nonce ((bs).take (n - 16)))) 35), (b5, .cells (BV nonce) 79)] ++ (X27 ++ [])) w) ?_
        have hS := hS.drew
        refine dq 0 rfl (by kernel_rfl) (by kernel_rfl) (by kernel_rfl) rfl rfl (fun w hS => a_all Tryd.underlying35 ⟨_, sz5⟩ rfl rfl rfl ⟨rfl, rfl⟩) hS ?_
        refine dq 1 rfl (by kernel_rfl) (by kernel_rfl) (by kernel_rfl) rfl rfl (fun w hS => mv rfl rfl rfl ⟨rfl, rfl⟩) hS ?_
        refine dq 2 rfl (by kernel_rfl) (by kernel_rfl) (by kernel_rfl) rfl rfl (fun w hS => mv rfl rfl rfl ⟨rfl, rfl⟩) hS ?_
        refine dq 3 rfl (by kernel_rfl) (by kernel_rfl) (by kernel_rfl) rfl rfl (fun w hS => s_l ((n - 16)) Tryd.underlying22 sz5 rfl rfl rfl rfl (by omega) (by omega) ⟨rfl, rfl⟩) hS ?_
        refine dl 4 rfl (by kernel_rfl) ?_
        refine cv cf51 hS rfl rfl rfl rfl rfl (sp_bits_Equal ((some ⟨b14, 0, none⟩)) (16) (16) (((tagV key (decC key nonce ((bs).take (n - 16))) (cryO key nonce (n - 16)) bs2).toList)) ((sla a (n - 16) cap)) ((n - (n - 16))) ((cap - (n - 16))) (((bs).drop (n - 16))) _ Vector.length_toList (by omega) (Cel.bv (hS.get 0 rfl)) (by first | rfl | omega | (simp; omega) | (simp; done)) (by omega) ((hc.st hS).drop8 (lo := (n - 16)) (cap := cap) (by first | omega | (simp; omega) | simp))) ?_
        intro w hS
        refine ⟨fun _ => hS, ?_⟩
        refine dq 5 rfl (by kernel_rfl) (by kernel_rfl) (by kernel_rfl) rfl rfl (fun w hS => notb rfl rfl rfl ⟨rfl, rfl⟩) hS ?_
        refine de (by kernel_rfl) ?_
        refine wq_then ?_
        refine wc_if rfl (fun hc4 => ?_) (fun hc4 => ?_)
        · skip
          try simp only [SB] at hc4
          have he0 := hc4
          refine rg ?_
          refine mki cc46 rfl rfl rfl ?_
          refine asg rfl rfl rfl ?_
          refine asg rfl rfl rfl ?_
          refine wq_then ?_
          refine wc_ret ?_
          refine q_then_ret ?_
          refine fin2 (v := (.slice none 0 0)) (u := (.iface 46 (I (3)))) rfl rfl rfl ?_
          have he : opnE key nonce bs2 bs = 3 := opnE_f hn (by omega) he0
          exact ⟨_, [], rfl, ⟨none, 0, 0, opn_e (by decide) he, opn_o (by decide) he⟩, hS.drop⟩
        · skip
          try simp only [SB] at hc4
          have he0 := hc4
          refine wc_skip ?_
          refine wq_then ?_
          refine rg ?_
          refine mv rfl rfl rfl ?_
          refine asg rfl rfl rfl ?_
          refine asg rfl rfl rfl ?_
          refine wq_then ?_
          refine wc_ret ?_
          refine fin2 (v := .slice a27 (n - 16) c27) (u := .nilIface) rfl rfl rfl ?_
          have he : opnE key nonce bs2 bs = 0 := opnE_t hn (by omega) he0
          exact ⟨_, X27, rfl, ⟨_, _, _, opn_e0 he, opn_o0 hn he hO27⟩, hS.sublist (.cons _ (.cons _ (.cons _ (.cons _ (List.sublist_append_left X27 [])))))⟩
      · skip
        refine ala zr35 hS rfl rfl ?_
        intro b13 w hb13 hS
        refine ⟨fun _ => hS.tl.tl, ?_⟩
        refine dl 5 rfl (by kernel_rfl) ?_
        refine cs cf50 hS rfl rfl rfl rfl rfl (sp_open_Decrypt (t) (c) (key) (nonce) (a) ((n - 16)) (cap) (((bs).take (n - 16))) _ (hT.st hS) (by first | rfl | omega | (simp; omega) | (simp; done)) (by omega) ((hc.st hS).take8 (n - 16)) (by omega) (hG.st hS)) ?_
        rintro _ X27 w ⟨a27, c27, rfl, hO27⟩ hS
        have hS := St.tailin (X := X27) hS [(b13, .cells (BV (Vector.replicate 16 0)) 35), (b12, .cells (BV (Vector.replicate 16 0)) 35), (b5, .cells (BV nonce) 79)] [] rfl
        refine ⟨fun _ => (St.untail (A := [(b13, .cells (BV (Vector.replicate 16 0)) 35), (b12, .cells (BV (Vector.replicate 16 0)) 35), (b5, .cells (BV nonce) 79)]) (X := X27) (R := []) hS).tl.tl, ?_⟩
        refine dq 6 rfl (by kernel_rfl) (by kernel_rfl) (by kernel_rfl) rfl rfl (fun w hS => mv rfl rfl rfl ⟨rfl, rfl⟩) (St.untail (A := [(b13, .cells (BV (Vector.replicate 16 0)) 35), (b12, .cells (BV (Vector.replicate 16 0)) 35), (b5, .cells (BV nonce) 79)]) (X := X27) (R := []) hS).tl.tl ?_
        refine dq 7 rfl (by kernel_rfl) (by kernel_rfl) (by kernel_rfl) rfl rfl (fun w hS => ext rfl rfl rfl rfl ⟨rfl, rfl⟩) (St.untail (A := [(b13, .cells (BV (Vector.replicate 16 0)) 35), (b12, .cells (BV (Vector.replicate 16 0)) 35), (b5, .cells (BV nonce) 79)]) (X := X27) (R := []) hS).tl.tl ?_
        refine dq 8 rfl (by kernel_rfl) (by kernel_rfl) (by kernel_rfl) rfl rfl (fun w hS => ext rfl rfl rfl rfl ⟨rfl, rfl⟩) (St.untail (A := [(b13, .cells (BV (Vector.replicate 16 0)) 35), (b12, .cells (BV (Vector.replicate 16 0)) 35), (b5, .cells (BV nonce) 79)]) (X := X27) (R := []) hS).tl.tl ?_
        refine dq 9 rfl (by kernel_rfl) (by kernel_rfl) (by kernel_rfl) rfl rfl (fun w hS => ext rfl rfl rfl rfl ⟨rfl, rfl⟩) (St.untail (A := [(b13, .cells (BV (Vector.replicate 16 0)) 35), (b12, .cells (BV (Vector.replicate 16 0)) 35), (b5, .cells (BV nonce) 79)]) (X := X27) (R := []) hS).tl.tl ?_
        refine dq 12 rfl (by kernel_rfl) (by kernel_rfl) (by kernel_rfl) rfl rfl (fun w hS => asg rfl rfl rfl ⟨rfl, rfl⟩) (St.untail (A := [(b13, .cells (BV (Vector.replicate 16 0)) 35), (b12, .cells (BV (Vector.replicate 16 0)) 35), (b5, .cells (BV nonce) 79)]) (X := X27) (R := []) hS).tl.tl ?_
        refine dl 13 rfl (by kernel_rfl) ?_
        refine sa 1 ag35 hS rfl rfl rfl (BV_one _) rfl (BV_size _) (BV_size _) ?_
        intro w hS
        refine ⟨fun _ => (St.untail (A := [(b13, .cells (BV (Vector.replicate 16 0)) 35), (b12, .cells (BV (decC key nonce ((bs).take (n - 16)))) 35), (b5, .cells (BV nonce) 79)]) (X := X27) (R := []) hS).tl.tl, ?_⟩
        refine dl 14 rfl (by kernel_rfl) ?_
        refine sa 0 ag35 hS rfl rfl rfl (BV_one _) rfl (BV_size _) (BV_size _) ?_
        intro w hS
        refine ⟨fun h => (by cases h), ?_⟩
        refine de (by kernel_rfl) ?_
        refine wq_then ?_
        refine rg ?_
        refine mv rfl rfl rfl ?_
        refine la 1 ag35 hS rfl rfl rfl rfl (BV_size _) ?_
        refine la 0 ag35 hS rfl rfl rfl rfl (BV_size _) ?_
        refine mv rfl rfl rfl ?_
        refine cv cf49 hS rfl rfl rfl rfl rfl (sp_seal_Tag (t) (c) (key) ((decC key nonce ((bs).take (n - 16)))) ((cryO key nonce (n - 16))) (a2) (n2) (cap2) (bs2) _ (hT.st hS) (by first | rfl | omega | (simp; omega) | (simp; done)) (by omega) (he2.st hS) (by omega) (hG.st hS)) ?_
        intro w hS
        refine ala zr35 hS rfl rfl ?_
        intro b14 w hb14 hS
        refine sa 0 ag35 hS rfl rfl rfl (BV_one _) rfl (BV_size _) (BV_size _) ?_
        intro w hS
        refine wq_then ?_
        refine wc_seq ?_
        refine rd mo 6 (fun w => St w0 [] ([(b14, .cells (BV (tagV key (decC key nonce ((bs).take (n - 16))) (cryO key nonce (n - 16)) bs2)) 35), (b13, .cells (BV (cryO key nonce (n - 16))) 35), (b12, .cells (BV (decC key nonce ((bs).take (n - 16)))) 35), (b5, .cells (BV nonce) 79)] ++ (X27 ++ [])) w) ?_
        have hS := hS.drew
        refine dq 0 rfl (by kernel_rfl) (by kernel_rfl) (by kernel_rfl) rfl rfl (fun w hS => a_all Tryd.underlying35 ⟨_, sz5⟩ rfl rfl rfl ⟨rfl, rfl⟩) hS ?_
        refine dq 1 rfl (by kernel_rfl) (by kernel_rfl) (by kernel_rfl) rfl rfl (fun w hS => mv rfl rfl rfl ⟨rfl, rfl⟩) hS ?_
        refine dq 2 rfl (by kernel_rfl) (by kernel_rfl) (by kernel_rfl) rfl rfl (fun w hS => mv rfl rfl rfl ⟨rfl, rfl⟩) hS ?_
        refine dq 3 rfl (by kernel_rfl) (by kernel_rfl) (by kernel_rfl) rfl rfl (fun w hS => s_l ((n - 16)) Tryd.underlying22 sz5 rfl rfl rfl rfl (by omega) (by omega) ⟨rfl, rfl⟩) hS ?_
        refine dl 4 rfl (by kernel_rfl) ?_
        refine cv cf51 hS rfl rfl rfl rfl rfl (sp_bits_Equal ((some ⟨b14, 0, none⟩)) (16) (16) (((tagV key (decC key nonce ((bs).take (n - 16))) (cryO key nonce (n - 16)) bs2).toList)) ((sla a (n - 16) cap)) ((n - (n - 16))) ((cap - (n - 16))) (((bs).drop (n - 16))) _ Vector.length_toList (by omega) (Cel.bv (hS.get 0 rfl)) (by first | rfl | omega | (simp; omega) | (simp; done)) (by omega) ((hc.st hS).drop8 (lo := (n - 16)) (cap := cap) (by first | omega | (simp; omega) | simp))) ?_
        intro w hS
        refine ⟨fun _ => hS, ?_⟩
        refine dq 5 rfl (by kernel_rfl) (by kernel_rfl) (by kernel_rfl) rfl rfl (fun w hS => notb rfl rfl rfl ⟨rfl, rfl⟩) hS ?_
        refine de (by kernel_rfl) ?_
        refine wq_then ?_
        refine wc_if rfl (fun hc5 => ?_) (fun hc5 => ?_)
        · skip
          try simp only [SB] at hc5
          have he0 := hc5
          refine rg ?_
          refine mki cc46 rfl rfl rfl ?_
          refine asg rfl rfl rfl ?_
          refine asg rfl rfl rfl ?_
          refine wq_then ?_
          refine wc_ret ?_
          refine q_then_ret ?_
          refine fin2 (v := (.slice none 0 0)) (u := (.iface 46 (I (3)))) rfl rfl rfl ?_
          have he : opnE key nonce bs2 bs = 3 := opnE_f hn (by omega) he0
          exact ⟨_, [], rfl, ⟨none, 0, 0, opn_e (by decide) he, opn_o (by decide) he⟩, hS.drop⟩
        · skip
          try simp only [SB] at hc5
          have he0 := hc5
          refine wc_skip ?_
          refine wq_then ?_
          refine rg ?_
          refine mv rfl rfl rfl ?_
          refine asg rfl rfl rfl ?_
          refine asg rfl rfl rfl ?_
          refine wq_then ?_
          refine wc_ret ?_
          refine fin2 (v := .slice a27 (n - 16) c27) (u := .nilIface) rfl rfl rfl ?_
          have he : opnE key nonce bs2 bs = 0 := opnE_t hn (by omega) he0
          exact ⟨_, X27, rfl, ⟨_, _, _, opn_e0 he, opn_o0 hn he hO27⟩, hS.sublist (.cons _ (.cons _ (.cons _ (.cons _ (List.sublist_append_left X27 [])))))⟩
    · skip
      refine ala zr35 hS rfl rfl ?_
      intro b13 w hb13 hS
      refine ⟨fun _ => hS.tl, ?_⟩
      refine dl2 5 10 rfl rfl (by kernel_rfl) ?_ ?_
      · skip
        refine cs cf50 hS rfl rfl rfl rfl rfl (sp_open_Decrypt (t) (c) (key) (nonce) (a) ((n - 16)) (cap) (((bs).take (n - 16))) _ (hT.st hS) (by first | rfl | omega | (simp; omega) | (simp; done)) (by omega) ((hc.st hS).take8 (n - 16)) (by omega) (hG.st hS)) ?_
        rintro _ X27 w ⟨a27, c27, rfl, hO27⟩ hS
        have hS := St.tailin (X := X27) hS [(b13, .cells (BV (Vector.replicate 16 0)) 35), (b5, .cells (BV nonce) 79)] [] rfl
        refine ⟨fun _ => (St.untail (A := [(b13, .cells (BV (Vector.replicate 16 0)) 35), (b5, .cells (BV nonce) 79)]) (X := X27) (R := []) hS).tl, ?_⟩
        refine dq 6 rfl (by kernel_rfl) (by kernel_rfl) (by kernel_rfl) rfl rfl (fun w hS => mv rfl rfl rfl ⟨rfl, rfl⟩) (St.untail (A := [(b13, .cells (BV (Vector.replicate 16 0)) 35), (b5, .cells (BV nonce) 79)]) (X := X27) (R := []) hS).tl ?_
        refine dq 7 rfl (by kernel_rfl) (by kernel_rfl) (by kernel_rfl) rfl rfl (fun w hS => ext rfl rfl rfl rfl ⟨rfl, rfl⟩) (St.untail (A := [(b13, .cells (BV (Vector.replicate 16 0)) 35), (b5, .cells (BV nonce) 79)]) (X := X27) (R := []) hS).tl ?_
        refine dq 8 rfl (by kernel_rfl) (by kernel_rfl) (by kernel_rfl) rfl rfl (fun w hS => ext rfl rfl rfl rfl ⟨rfl, rfl⟩) (St.untail (A := [(b13, .cells (BV (Vector.replicate 16 0)) 35), (b5, .cells (BV nonce) 79)]) (X := X27) (R := []) hS).tl ?_
        refine dq 9 rfl (by kernel_rfl) (by kernel_rfl) (by kernel_rfl) rfl rfl (fun w hS => ext rfl rfl rfl rfl ⟨rfl, rfl⟩) (St.untail (A := [(b13, .cells (BV (Vector.replicate 16 0)) 35), (b5, .cells (BV nonce) 79)]) (X := X27) (R := []) hS).tl ?_
        refine dl 10 rfl (by kernel_rfl) ?_
        refine ala zr35 hS rfl rfl ?_
        intro b12 w hb12 hS
        refine ⟨fun _ => (St.untail (A := [(b12, .cells (BV (Vector.replicate 16 0)) 35), (b13, .cells (BV (Vector.replicate 16 0)) 35), (b5, .cells (BV nonce) 79)]) (X := X27) (R := []) hS).tl.tl, ?_⟩
        refine dq 12 rfl (by kernel_rfl) (by kernel_rfl) (by kernel_rfl) rfl rfl (fun w hS => asg rfl rfl rfl ⟨rfl, rfl⟩) (St.untail (A := [(b12, .cells (BV (Vector.replicate 16 0)) 35), (b13, .cells (BV (Vector.replicate 16 0)) 35), (b5, .cells (BV nonce) 79)]) (X := X27) (R := []) hS).tl.tl ?_
        refine dl 13 rfl (by kernel_rfl) ?_
        refine sa 0 ag35 hS rfl rfl rfl (BV_one _) rfl (BV_size _) (BV_size _) ?_
        intro w hS
        refine ⟨fun _ => (St.untail (A := [(b12, .cells (BV (decC key nonce ((bs).take (n - 16)))) 35), (b13, .cells (BV (Vector.replicate 16 0)) 35), (b5, .cells (BV nonce) 79)]) (X := X27) (R := []) hS).tl.tl, ?_⟩
        refine dl 14 rfl (by kernel_rfl) ?_
        refine sa 1 ag35 hS rfl rfl rfl (BV_one _) rfl (BV_size _) (BV_size _) ?_
        intro w hS
        refine ⟨fun h => (by cases h), ?_⟩
        refine de (by kernel_rfl) ?_
        refine wq_then ?_
        refine rg ?_
        refine mv rfl rfl rfl ?_
        refine la 0 ag35 hS rfl rfl rfl rfl (BV_size _) ?_
        refine la 1 ag35 hS rfl rfl rfl rfl (BV_size _) ?_
        refine mv rfl rfl rfl ?_
        refine cv cf49 hS rfl rfl rfl rfl rfl (sp_seal_Tag (t) (c) (key) ((decC key nonce ((bs).take (n - 16)))) ((cryO key nonce (n - 16))) (a2) (n2) (cap2) (bs2) _ (hT.st hS) (by first | rfl | omega | (simp; omega) | (simp; done)) (by omega) (he2.st hS) (by omega) (hG.st hS)) ?_
        intro w hS
        refine ala zr35 hS rfl rfl ?_
        intro b14 w hb14 hS
        refine sa 0 ag35 hS rfl rfl rfl (BV_one _) rfl (BV_size _) (BV_size _) ?_
        intro w hS
        refine wq_then ?_
        refine wc_seq ?_
        refine rd mo 6 (fun w => St w0 [] ([(b14, .cells (BV (tagV key (decC key nonce ((bs).take (n - 16))) (cryO key nonce (n - 16)) bs2)) 35), (b12, .cells (BV (decC key nonce ((bs).take (n - 16)))) 35), (b13, .cells (BV (cryO key nonce (n - 16))) 35), (b5, .cells (BV nonce) 79)] ++ (X27 ++ [])) w) ?_
        have hS := hS.drew
        refine dq 0 rfl (by kernel_rfl) (by kernel_rfl) (by kernel_rfl) rfl rfl (fun w hS => a_all Tryd.underlying35 ⟨_, sz5⟩ rfl rfl rfl ⟨rfl, rfl⟩) hS ?_
        refine dq 1 rfl (by kernel_rfl) (by kernel_rfl) (by kernel_rfl) rfl rfl (fun w hS => mv rfl rfl rfl ⟨rfl, rfl⟩) hS ?_
        refine dq 2 rfl (by kernel_rfl) (by kernel_rfl) (by kernel_rfl) rfl rfl (fun w hS => mv rfl rfl rfl ⟨rfl, rfl⟩) hS ?_
        refine dq 3 rfl (by kernel_rfl) (by kernel_rfl) (by kernel_rfl) rfl rfl (fun w hS => s_l ((n - 16)) Tryd.underlying22 sz5 rfl rfl rfl rfl (by omega) (by omega) ⟨rfl, rfl⟩) hS ?_
        refine dl 4 rfl (by kernel_rfl) ?_
        refine cv cf51 hS rfl rfl rfl rfl rfl (sp_bits_Equal ((some ⟨b14, 0, none⟩)) (16) (16) (((tagV key (decC key nonce ((bs).take (n - 16))) (cryO key nonce (n - 16)) bs2).toList)) ((sla a (n - 16) cap)) ((n - (n - 16))) ((cap - (n - 16))) (((bs).drop (n - 16))) _ Vector.length_toList (by omega) (Cel.bv (hS.get 0 rfl)) (by first | rfl | omega | (simp; omega) | (simp; done)) (by omega) ((hc.st hS).drop8 (lo := (n - 16)) (cap := cap) (by first | omega | (simp; omega) | simp))) ?_
        intro w hS
        refine ⟨fun _ => hS, ?_⟩
        refine dq 5 rfl (by kernel_rfl) (by kernel_rfl) (by kernel_rfl) rfl rfl (fun w hS => notb rfl rfl rfl ⟨rfl, rfl⟩) hS ?_
        refine de (by kernel_rfl) ?_
        refine wq_then ?_
        refine wc_if rfl (fun hc6 => ?_) (fun hc6 => ?_)
        · skip
          try simp only [SB] at hc6
          have he0 := hc6
          refine rg ?_
          refine mki cc46 rfl rfl rfl ?_
          refine asg rfl rfl rfl ?_
          refine asg rfl rfl rfl ?_
          refine wq_then ?_
          refine wc_ret ?_
          refine q_then_ret ?_
          refine fin2 (v := (.slice none 0 0)) (u := (.iface 46 (I (3)))) rfl rfl rfl ?_
          have he : opnE key nonce bs2 bs = 3 := opnE_f hn (by omega) he0
          exact ⟨_, [], rfl, ⟨none, 0, 0, opn_e (by decide) he, opn_o (by decide) he⟩, hS.drop⟩
        · skip
          try simp only [SB] at hc6
          have he0 := hc6
          refine wc_skip ?_
          refine wq_then ?_
          refine rg ?_
          refine mv rfl rfl rfl ?_
          refine asg rfl rfl rfl ?_
          refine asg rfl rfl rfl ?_
          refine wq_then ?_
          refine wc_ret ?_
          refine fin2 (v := .slice a27 (n - 16) c27) (u := .nilIface) rfl rfl rfl ?_
          have he : opnE key nonce bs2 bs = 0 := opnE_t hn (by omega) he0
          exact ⟨_, X27, rfl, ⟨_, _, _, opn_e0 he, opn_o0 hn he hO27⟩, hS.sublist (.cons _ (.cons _ (.cons _ (.cons _ (List.sublist_append_left X27 [])))))⟩
      · skip
        refine ala zr35 hS rfl rfl ?_
        intro b12 w hb12 hS
        refine ⟨fun _ => hS.tl.tl, ?_⟩
        refine dl 5 rfl (by kernel_rfl) ?_
        refine cs cf50 hS rfl rfl rfl rfl rfl (sp_open_Decrypt (t) (c) (key) (nonce) (a) ((n - 16)) (cap) (((bs).take (n - 16))) _ (hT.st hS) (by first | rfl | omega | (simp; omega) | (simp; done)) (by omega) ((hc.st hS).take8 (n - 16)) (by omega) (hG.st hS)) ?_
        rintro _ X27 w ⟨a27, c27, rfl, hO27⟩ hS
        have hS := St.tailin (X := X27) hS [(b12, .cells (BV (Vector.replicate 16 0)) 35), (b13, .cells (BV (Vector.replicate 16 0)) 35), (b5, .cells (BV nonce) 79)] [] rfl
        refine ⟨fun _ => (St.untail (A := [(b12, .cells (BV (Vector.replicate 16 0)) 35), (b13, .cells (BV (Vector.replicate 16 0)) 35), (b5, .cells (BV nonce) 79)]) (X := X27) (R := []) hS).tl.tl, ?_⟩
        refine dq 6 rfl (by kernel_rfl) (by kernel_rfl) (by kernel_rfl) rfl rfl (fun w hS => mv rfl rfl rfl ⟨rfl, rfl⟩) (St.untail (A := [(b12, .cells (BV (Vector.replicate 16 0)) 35), (b13, .cells (BV (Vector.replicate 16 0)) 35), (b5, .cells (BV nonce) 79)]) (X := X27) (R := []) hS).tl.tl ?_
        refine dq 7 rfl (by kernel_rfl) (by kernel_rfl) (by kernel_rfl) rfl rfl (fun w hS => ext rfl rfl rfl rfl ⟨rfl, rfl⟩) (St.untail (A := [(b12, .cells (BV (Vector.replicate 16 0)) 35), (b13, .cells (BV (Vector.replicate 16 0)) 35), (b5, .cells (BV nonce) 79)]) (X := X27) (R := []) hS).tl.tl ?_
        refine dq 8 rfl (by kernel_rfl) (by kernel_rfl) (by kernel_rfl) rfl rfl (fun w hS => ext rfl rfl rfl rfl ⟨rfl, rfl⟩) (St.untail (A := [(b12, .cells (BV (Vector.replicate 16 0)) 35), (b13, .cells (BV (Vector.replicate 16 0)) 35), (b5, .cells (BV nonce) 79)]) (X := X27) (R := []) hS).tl.tl ?_
        refine dq 9 rfl (by kernel_rfl) (by kernel_rfl) (by kernel_rfl) rfl rfl (fun w hS => ext rfl rfl rfl rfl ⟨rfl, rfl⟩) (St.untail (A := [(b12, .cells (BV (Vector.replicate 16 0)) 35), (b13, .cells (BV (Vector.replicate 16 0)) 35), (b5, .cells (BV nonce) 79)]) (X := X27) (R := []) hS).tl.tl ?_
        refine dq 12 rfl (by kernel_rfl) (by kernel_rfl) (by kernel_rfl) rfl rfl (fun w hS => asg rfl rfl rfl ⟨rfl, rfl⟩) (St.untail (A := [(b12, .cells (BV (Vector.replicate 16 0)) 35), (b13, .cells (BV (Vector.replicate 16 0)) 35), (b5, .cells (BV nonce) 79)]) (X := X27) (R := []) hS).tl.tl ?_
        refine dl 13 rfl (by kernel_rfl) ?_
        refine sa 0 ag35 hS rfl rfl rfl (BV_one _) rfl (BV_size _) (BV_size _) ?_
        intro w hS
        refine ⟨fun _ => (St.untail (A := [(b12, .cells (BV (decC key nonce ((bs).take (n - 16)))) 35), (b13, .cells (BV (Vector.replicate 16 0)) 35), (b5, .cells (BV nonce) 79)]) (X := X27) (R := []) hS).tl.tl, ?_⟩
        refine dl 14 rfl (by kernel_rfl) ?_
        refine sa 1 ag35 hS rfl rfl rfl (BV_one _) rfl (BV_size _) (BV_size _) ?_
        intro w hS
        refine ⟨fun h => (by cases h), ?_⟩
        refine de (by kernel_rfl) ?_
        refine wq_then ?_
        refine rg ?_
        refine mv rfl rfl rfl ?_
        refine la 0 ag35 hS rfl rfl rfl rfl (BV_size _) ?_
        refine la 1 ag35 hS rfl rfl rfl rfl (BV_size _) ?_
        refine mv rfl rfl rfl ?_
        refine cv cf49 hS rfl rfl rfl rfl rfl (sp_seal_Tag (t) (c) (key) ((decC key nonce ((bs).take (n - 16)))) ((cryO key nonce (n - 16))) (a2) (n2) (cap2) (bs2) _ (hT.st hS) (by first | rfl | omega | (simp; omega) | (simp; done)) (by omega) (he2.st hS) (by omega) (hG.st hS)) ?_
        intro w hS
        refine ala zr35 hS rfl rfl ?_
        intro b14 w hb14 hS
        refine sa 0 ag35 hS rfl rfl rfl (BV_one _) rfl (BV_size _) (BV_size _) ?_
        intro w hS
        refine wq_then ?_
        refine wc_seq ?_
        refine rd mo 6 (fun w => St w0 [] ([(b14, .cells (BV (tagV key (decC key nonce ((bs).take (n - 16))) (cryO key nonce (n - 16)) bs2)) 35), (b12, .cells (BV (decC key nonce ((bs).take (n - 16)))) 35), (b13, .cells (BV (cryO key nonce (n - 16))) 35), (b5, .cells (BV nonce) 79)] ++ (X27 ++ [])) w) ?_
        have hS := hS.drew
        refine dq 0 rfl (by kernel_rfl) (by kernel_rfl) (by kernel_rfl) rfl rfl (fun w hS => a_all Tryd.underlying35 ⟨_, sz5⟩ rfl rfl rfl ⟨rfl, rfl⟩) hS ?_
        refine dq 1 rfl (by kernel_rfl) (by kernel_rfl) (by kernel_rfl) rfl rfl (fun w hS => mv rfl rfl rfl ⟨rfl, rfl⟩) hS ?_
        refine dq 2 rfl (by kernel_rfl) (by kernel_rfl) (by kernel_rfl) rfl rfl (fun w hS => mv rfl rfl rfl ⟨rfl, rfl⟩) hS ?_
        refine dq 3 rfl (by kernel_rfl) (by kernel_rfl) (by kernel_rfl) rfl rfl (fun w hS => s_l ((n - 16)) Tryd.underlying22 sz5 rfl rfl rfl rfl (by omega) (by omega) ⟨rfl, rfl⟩) hS ?_
        refine dl 4 rfl (by kernel_rfl) ?_
        refine cv cf51 hS rfl rfl rfl rfl rfl (sp_bits_Equal ((some ⟨b14, 0, none⟩)) (16) (16) (((tagV key (decC key nonce ((bs).take (n - 16))) (cryO key nonce (n - 16)) bs2).toList)) ((sla a (n - 16) cap)) ((n - (n - 16))) ((cap - (n - 16))) (((bs).drop (n - 16))) _ Vector.length_toList (by omega) (Cel.bv (hS.get 0 rfl)) (by first | rfl | omega | (simp; omega) | (simp; done)) (by omega) ((hc.st hS).drop8 (lo := (n - 16)) (cap := cap) (by first | omega | (simp; omega) | simp))) ?_
        intro w hS
        refine ⟨fun _ => hS, ?_⟩
        refine dq 5 rfl (by kernel_rfl) (by kernel_rfl) (by kernel_rfl) rfl rfl (fun w hS => notb rfl rfl rfl ⟨rfl, rfl⟩) hS ?_
        refine de (by kernel_rfl) ?_
        refine wq_then ?_
        refine wc_if rfl (fun hc7 => ?_) (fun hc7 => ?_)
        · skip
          try simp only [SB] at hc7
          have he0 := hc7
          refine rg ?_
          refine mki cc46 rfl rfl rfl ?_
          refine asg rfl rfl rfl ?_
          refine asg rfl rfl rfl ?_
          refine wq_then ?_
          refine wc_ret ?_
          refine q_then_ret ?_
          refine fin2 (v := (.slice none 0 0)) (u := (.iface 46 (I (3)))) rfl rfl rfl ?_
          have he : opnE key nonce bs2 bs = 3 := opnE_f hn (by omega) he0
          exact ⟨_, [], rfl, ⟨none, 0, 0, opn_e (by decide) he, opn_o (by decide) he⟩, hS.drop⟩
        · skip
          try simp only [SB] at hc7
          have he0 := hc7
          refine wc_skip ?_
          refine wq_then ?_
          refine rg ?_
          refine mv rfl rfl rfl ?_
          refine asg rfl rfl rfl ?_
          refine asg rfl rfl rfl ?_
          refine wq_then ?_
          refine wc_ret ?_
          refine fin2 (v := .slice a27 (n - 16) c27) (u := .nilIface) rfl rfl rfl ?_
          have he : opnE key nonce bs2 bs = 0 := opnE_t hn (by omega) he0
          exact ⟨_, X27, rfl, ⟨_, _, _, opn_e0 he, opn_o0 hn he hO27⟩, hS.sublist (.cons _ (.cons _ (.cons _ (.cons _ (List.sublist_append_left X27 [])))))⟩
end Go.Proofs.XX

/- walks -/
namespace Go.Proofs.XX
open Go Go.X Go.Proofs
set_option maxRecDepth 100000 in
theorem sp_packet_Decode (t c : Nat) (key : V8 16) (a : Option Addr) (n cap : Nat) (bs : List UInt8) (w0 : World) (hT : TabAt w0 t c key) (hn : bs.length = n) (hN : n ≤ 1000000) (hc : Cel w0 a (c8 bs)) (hcap : n ≤ cap) (hG : Gl 0 w0) : Calls Tryd.prog 17 #[Ptr t 0, .slice a n cap] w0 (RetS w0 (fun v X => DecR key bs 46 v X)) := by
  refine enter (args := [Ptr t 0, .slice a n cap]) Tryd.func17 rfl rfl ?_
  refine startw fun w hS => ?_
  obtain ⟨⟨T, hT1⟩, E, hC⟩ := id hT
  refine rg ?_
  refine ala zr33 hS rfl rfl ?_
  intro b4 w hb4 hS
  refine asg rfl rfl rfl ?_
  refine wq_then ?_
  refine wc_seq ?_
  refine rg ?_
  refine mv rfl rfl rfl ?_
  refine lens Tryd.underlying22 rfl rfl rfl ?_
  refine cv cf19 hS rfl rfl rfl rfl rfl (sp_packet_length (n) _ _ (by omega)) ?_
  intro w hS
  refine asg rfl rfl rfl ?_
  refine wq_then ?_
  refine rg ?_
  refine mv rfl rfl rfl ?_
  refine neE (C := 46) (c := (lng n)) Tryd.underlying43 rfl rfl rfl ?_
  refine wq_then ?_
  refine wc_if rfl (fun hc1 => ?_) (fun hc1 => ?_)
  · skip
    try simp only [SB] at hc1
    have hk : lng n ≠ 0 := by simpa using hc1
    have hq := dcdE_1 (key := key) hn hk
    refine rg ?_
    refine bd (cs := #[I (0), U64 (0), U16 (0), U16 (0), (.slice none 0 0)]) rfl rfl rfl (by kernel_rfl) ?_
    refine mv rfl rfl rfl ?_
    refine sa 0 ag33 hS rfl rfl rfl (by kernel_rfl) rfl rfl rfl ?_
    intro w hS
    refine asg rfl rfl rfl ?_
    refine wq_then ?_
    refine wc_ret ?_
    refine q_then_ret ?_
    refine fin2 (v := .agg (#[I (0), U64 (0), U16 (0), U16 (0), (.slice none 0 0)])) (u := (errV 46 (lng n))) rfl ⟨_, rfl, lv_a ag33 (hS.get 0 rfl) rfl⟩ rfl ?_
    have hj : dcdE key bs ≠ 0 := by rw [hq]; exact hk
    rw [← hq]
    exact ⟨_, [], rfl, dec_bad hj, hS.drop⟩
  · skip
    try simp only [SB] at hc1
    have hk : lng n = 0 := by simpa using hc1
    have hq := dcdE_2 (key := key) hn hk
    have h28 := lng_0 hk
    refine wc_skip ?_
    refine wq_then ?_
    refine rd mo 12 (fun w => St w0 [] [(b4, .cells (#[I (0), U64 (0), U16 (0), U16 (0), (.slice none 0 0)]) 33)] w) ?_
    have hS := hS.drew
    refine dq 0 rfl (by kernel_rfl) (by kernel_rfl) (by kernel_rfl) rfl rfl (fun w hS => mv rfl rfl rfl ⟨rfl, rfl⟩) hS ?_
    refine dq 1 rfl (by kernel_rfl) (by kernel_rfl) (by kernel_rfl) rfl rfl (fun w hS => mv rfl rfl rfl ⟨rfl, rfl⟩) hS ?_
    refine dq 2 rfl (by kernel_rfl) (by kernel_rfl) (by kernel_rfl) rfl rfl (fun w hS => s2b Tryd.underlying74 rfl rfl rfl (by omega) ((hc.st hS).some8 (j := 0) (by first | omega | (simp; omega) | simp)) ⟨rfl, rfl⟩) hS ?_
    refine dq 3 rfl (by kernel_rfl) (by kernel_rfl) (by kernel_rfl) rfl rfl (fun w hS => ld rfl rfl rfl (lv_celj 0 ag74 (hc.st hS) (by first | omega | (simp; done) | (simp; omega)) (by omega)) ⟨rfl, rfl⟩) hS ?_
    refine dq 5 rfl (by kernel_rfl) (by kernel_rfl) (by kernel_rfl) rfl rfl (fun w hS => mv rfl rfl rfl ⟨rfl, rfl⟩) hS ?_
    refine dq 6 rfl (by kernel_rfl) (by kernel_rfl) (by kernel_rfl) rfl rfl (fun w hS => s_l (8) Tryd.underlying22 sz5 rfl rfl rfl rfl (by omega) (by omega) ⟨rfl, rfl⟩) hS ?_
    refine dl 4 rfl (by kernel_rfl) ?_
    refine cv cf36 hS rfl rfl rfl rfl rfl (sp_nonce_Whole ((ofl 8 bs)) _) ?_
    intro w hS
    refine ⟨fun _ => hS, ?_⟩
    refine dl 7 rfl (by kernel_rfl) ?_
    refine cs cf37 hS rfl rfl rfl rfl rfl (sp_open_Open (t) (c) (key) ((nonceV (ofl 8 bs))) ((sla a 8 cap)) ((n - 8)) ((cap - 8)) (((bs).drop 8)) (none) (0) (0) (([])) _ (hT.st hS) (by first | rfl | omega | (simp; omega) | (simp; done)) (by omega) ((hc.st hS).drop8 (lo := 8) (cap := cap) (by first | omega | (simp; omega) | simp)) (by omega) rfl (by omega) (Cel.nil _ _) (by omega) (hG.st hS)) ?_
    rintro _ X28 w ⟨a28, n28, c28, rfl, hO28⟩ hS
    have hS := St.tailin (X := X28) hS [(b4, .cells (#[I (0), U64 (0), U16 (0), U16 (0), (.slice none 0 0)]) 33)] [] rfl
    refine ⟨fun _ => (St.untail (A := [(b4, .cells (#[I (0), U64 (0), U16 (0), U16 (0), (.slice none 0 0)]) 33)]) (X := X28) (R := []) hS), ?_⟩
    refine dq 8 rfl (by kernel_rfl) (by kernel_rfl) (by kernel_rfl) rfl rfl (fun w hS => mv rfl rfl rfl ⟨rfl, rfl⟩) (St.untail (A := [(b4, .cells (#[I (0), U64 (0), U16 (0), U16 (0), (.slice none 0 0)]) 33)]) (X := X28) (R := []) hS) ?_
    refine dq 9 rfl (by kernel_rfl) (by kernel_rfl) (by kernel_rfl) rfl rfl (fun w hS => ext rfl rfl rfl rfl ⟨rfl, rfl⟩) (St.untail (A := [(b4, .cells (#[I (0), U64 (0), U16 (0), U16 (0), (.slice none 0 0)]) 33)]) (X := X28) (R := []) hS) ?_
    refine dq 10 rfl (by kernel_rfl) (by kernel_rfl) (by kernel_rfl) rfl rfl (fun w hS => ext rfl rfl rfl rfl ⟨rfl, rfl⟩) (St.untail (A := [(b4, .cells (#[I (0), U64 (0), U16 (0), U16 (0), (.slice none 0 0)]) 33)]) (X := X28) (R := []) hS) ?_
    refine dq 11 rfl (by kernel_rfl) (by kernel_rfl) (by kernel_rfl) rfl rfl (fun w hS => asg rfl rfl rfl ⟨rfl, rfl⟩) (St.untail (A := [(b4, .cells (#[I (0), U64 (0), U16 (0), U16 (0), (.slice none 0 0)]) 33)]) (X := X28) (R := []) hS) ?_
    refine dl 12 rfl (by kernel_rfl) ?_
    refine asg rfl rfl rfl ?_
    refine ⟨fun h => (by cases h), ?_⟩
    refine de (by kernel_rfl) ?_
    refine wq_then ?_
    refine wc_seq ?_
    refine rg ?_
    refine mv rfl rfl rfl ?_
    refine neE (C := 46) (c := (opnE key (nonceV (ofl 8 bs)) ([]) ((bs).drop 8))) Tryd.underlying43 rfl rfl rfl ?_
    refine wq_then ?_
    refine wc_if rfl (fun hc2 => ?_) (fun hc2 => ?_)
    · skip
      try simp only [SB] at hc2
      have hj : dcdE key bs ≠ 0 := by rw [hq]; simpa using hc2
      refine rg ?_
      refine bd (cs := #[I (0), U64 (0), U16 (0), U16 (0), (.slice none 0 0)]) rfl rfl rfl (by kernel_rfl) ?_
      refine mv rfl rfl rfl ?_
      refine sa 0 ag33 hS rfl rfl rfl (by kernel_rfl) rfl rfl rfl ?_
      intro w hS
      refine asg rfl rfl rfl ?_
      refine wq_then ?_
      refine wc_ret ?_
      refine q_then_ret ?_
      refine fin2 (v := .agg (#[I (0), U64 (0), U16 (0), U16 (0), (.slice none 0 0)])) (u := (errV 46 (opnE key (nonceV (ofl 8 bs)) ([]) ((bs).drop 8)))) rfl ⟨_, rfl, lv_a ag33 (hS.get 0 rfl) rfl⟩ rfl ?_
      rw [← hq]
      exact ⟨_, [], rfl, dec_bad hj, hS.drop⟩
    · skip
      try simp only [SB] at hc2
      have hj : dcdE key bs = 0 := by rw [hq]; simpa using hc2
      rw [← hq, if_pos hj] at hO28
      have hO28 : Own 1 a28 n28 c28 (c8 (dcdX key bs)) X28 := hO28
      have hl28 := hO28.len8
      have hl29 := dcdX_len key bs
      have hl30 := hO28.le
      refine wc_skip ?_
      refine wq_then ?_
      refine rg ?_
      refine mv rfl rfl rfl ?_
      refine cv cf20 hS rfl rfl rfl rfl rfl (sp_nonce_ParseHead (a) (n) (cap) (bs) _ (by first | rfl | omega | (simp; omega) | (simp; done)) (by omega) (hc.st hS) (by omega) (by omega)) ?_
      intro w hS
      refine mv rfl rfl rfl ?_
      refine ext rfl rfl rfl rfl ?_
      refine ext rfl rfl rfl rfl ?_
      refine ext rfl rfl rfl rfl ?_
      refine asg rfl rfl rfl ?_
      refine asg rfl rfl rfl ?_
      refine asg rfl rfl rfl ?_
      refine wq_then ?_
      refine rg ?_
      refine mv rfl rfl rfl ?_
      refine s_h (4) Tryd.underlying22 ⟨_, sz5⟩ rfl rfl rfl rfl (by omega) (by omega) ?_
      refine cv cf38 hS rfl rfl rfl rfl rfl (sp_bits_Number (a28) (4) (c28) (((dcdX key bs).take 4)) _ (by first | rfl | omega | (simp; omega) | (simp; done)) (by omega) ((hO28.cel hS (fun p hp => by simp [hp])).take8 4) (by omega)) ?_
      intro w hS
      refine asg rfl rfl rfl ?_
      refine wq_then ?_
      refine rg ?_
      refine mv rfl rfl rfl ?_
      refine mv rfl rfl rfl ?_
      refine mv rfl rfl rfl ?_
      refine shrn64 (16) (by omega) rfl rfl rfl rfl ?_
      refine cvu16 Tryd.underlying31 ⟨_, Tryd.underlying24⟩ rfl rfl rfl ?_
      refine mv rfl rfl rfl ?_
      refine cvu16 Tryd.underlying31 ⟨_, Tryd.underlying24⟩ rfl rfl rfl ?_
      refine mv rfl rfl rfl ?_
      refine s_l (4) Tryd.underlying22 sz5 rfl rfl rfl rfl (by omega) (by omega) ?_
      refine bd (cs := #[I ((headD bs : Nat) : Int), U64 (headS bs), U16 (toU16 (((shr64 (number ((dcdX key bs).take 4)) 16).toNat : Int))), U16 (toU16 (((number ((dcdX key bs).take 4)).toNat : Int))), .slice (sla a28 4 c28) (n28 - 4) (c28 - 4)]) rfl rfl rfl (by kernel_rfl) ?_
      refine sa 0 ag33 hS rfl rfl rfl (by kernel_rfl) rfl rfl rfl ?_
      intro w hS
      refine asg rfl rfl rfl ?_
      refine wq_then ?_
      refine wc_ret ?_
      refine fin2 (v := .agg (#[I ((headD bs : Nat) : Int), U64 (headS bs), U16 (toU16 (((shr64 (number ((dcdX key bs).take 4)) 16).toNat : Int))), U16 (toU16 (((number ((dcdX key bs).take 4)).toNat : Int))), .slice (sla a28 4 c28) (n28 - 4) (c28 - 4)])) (u := .nilIface) rfl ⟨_, rfl, lv_a ag33 (hS.get 0 rfl) rfl⟩ rfl ?_
      exact ⟨_, X28, rfl, dec_ok hj (by omega) hl28 (by omega) hO28, hS.sublist (.cons _ (List.sublist_append_left X28 []))⟩
end Go.Proofs.XX

/- walks -/
namespace Go.Proofs.XX
open Go Go.X Go.Proofs
set_option maxRecDepth 100000 in
theorem sp_mooringlaw17_awake (w0 : World) (hG : Gl 0 w0) : Calls Tryd.prog 6 #[] w0 (Ret w0 (.bool true)) := by
  refine enter (args := []) Tryd.func6 rfl rfl ?_
  refine startw fun w hS => ?_
  refine rg ?_
  refine asg rfl rfl rfl ?_
  refine wq_then ?_
  refine rg ?_
  refine bd (cs := BV (Vector.replicate 16 0)) rfl rfl rfl (by kernel_rfl) ?_
  refine cs cf15 hS rfl rfl rfl rfl rfl (sp_fast_New ((Vector.replicate 16 0)) _) ?_
  rintro _ _ w ⟨c13, rfl, rfl⟩ hS
  refine cs cf14 hS rfl rfl rfl rfl rfl (sp_table_New (c13) (_) ((Vector.replicate 16 0)) _ (hS.get 0 rfl)) ?_
  rintro _ _ w ⟨t14, rfl, rfl⟩ hS
  refine asg rfl rfl rfl ?_
  refine wq_then ?_
  refine rg ?_
  refine bsl (cs := #[U8 (104), U8 (101), U8 (108), U8 (108), U8 (111)]) sl22 hS rfl rfl rfl rfl (by kernel_rfl) ?_
  intro b15 w hb15 hS
  refine cvb 0 Tryd.underlying22 Tryd.underlying5 hS rfl rfl rfl rfl ?_
  intro w hS
  refine bd (cs := #[I (1), U64 (7), U16 (258), U16 (3), .slice (some ⟨b15, 0, none⟩) 5 5]) rfl rfl rfl (by kernel_rfl) ?_
  refine ala zr33 hS rfl rfl ?_
  intro b2 w hb2 hS
  refine sa 0 ag33 hS rfl rfl rfl (by kernel_rfl) rfl rfl rfl ?_
  intro w hS
  refine wq_then ?_
  refine rg ?_
  refine mv rfl rfl rfl ?_
  refine la 0 ag33 hS rfl rfl rfl rfl rfl ?_
  refine cs cf16 hS rfl rfl rfl rfl rfl (sp_packet_Encode (t14) (c13) ((Vector.replicate 16 0)) (1) (7) (258) (3) ((some ⟨b15, 0, none⟩)) (5) (5) (([104, 101, 108, 108, 111])) _ (⟨⟨_, hS.get 2 rfl⟩, _, hS.get 3 rfl⟩) (by first | rfl | omega | (simp; omega) | (simp; done)) (by omega) (Cel.lb (l := [104, 101, 108, 108, 111]) (hS.get 1 rfl)) (by omega) (hG.st hS)) ?_
  rintro _ X21 w ⟨a21, n21, c21, rfl, hO21⟩ hS
  have hS := St.tailin (X := X21) hS [(b2, .cells (#[I (1), U64 (7), U16 (258), U16 (3), .slice (some ⟨b15, 0, none⟩) 5 5]) 33), (b15, .cells (#[U8 (104), U8 (101), U8 (108), U8 (108), U8 (111)]) 5 (5, 5 + 1)), (t14, .cells (tableC c13 (Vector.replicate 16 0)) 60), (c13, .cells (cipherC (Vector.replicate 16 0)) 69)] [] rfl
  obtain ⟨P, hP⟩ : ∃ P, P = encP (Vector.replicate 16 0) 1 7 258 3 [104, 101, 108, 108, 111] := ⟨_, rfl⟩
  rw [← hP] at hO21
  obtain ⟨aL, aE, aS, aD, aQ⟩ := aw_facts hP
  have hl21 := hO21.len8
  have hc21 := hO21.le
  refine mv rfl rfl rfl ?_
  refine ext rfl rfl rfl rfl ?_
  refine ext rfl rfl rfl rfl ?_
  refine asg rfl rfl rfl ?_
  refine asg rfl rfl rfl ?_
  refine wq_then ?_
  refine rg ?_
  refine mv rfl rfl rfl ?_
  refine mv rfl rfl rfl ?_
  refine cs cf17 hS rfl rfl rfl rfl rfl (sp_packet_Decode (t14) (c13) ((Vector.replicate 16 0)) (a21) (n21) (c21) (P) _ (⟨⟨_, hS.get 2 rfl⟩, _, hS.get 3 rfl⟩) hO21.len8 (by omega) (hO21.cel hS (fun p hp => by simp [hp])) (by omega) (hG.st hS)) ?_
  rintro _ X27 w ⟨a27, n27, c27, rfl, hl27, hm27, hc27, hR27⟩ hS
  have hS := St.tailin (X := X27) hS [(b2, .cells (#[I (1), U64 (7), U16 (258), U16 (3), .slice (some ⟨b15, 0, none⟩) 5 5]) 33), (b15, .cells (#[U8 (104), U8 (101), U8 (108), U8 (108), U8 (111)]) 5 (5, 5 + 1)), (t14, .cells (tableC c13 (Vector.replicate 16 0)) 60), (c13, .cells (cipherC (Vector.replicate 16 0)) 69)] (X21 ++ []) rfl
  refine mv rfl rfl rfl ?_
  refine ext rfl rfl rfl rfl ?_
  refine ext rfl rfl rfl rfl ?_
  refine ala zr33 hS rfl rfl ?_
  intro b5 w hb5 hS
  refine sa 0 ag33 hS rfl rfl rfl (by kernel_rfl) rfl rfl rfl ?_
  intro w hS
  refine asg rfl rfl rfl ?_
  refine wq_then ?_
  refine rg ?_
  refine mv rfl rfl rfl ?_
  refine cs cf17 hS rfl rfl rfl rfl rfl (sp_packet_Decode (t14) (c13) ((Vector.replicate 16 0)) (none) (0) (0) (([])) _ (⟨⟨_, hS.get 3 rfl⟩, _, hS.get 4 rfl⟩) rfl (by omega) (Cel.nil _ _) (by omega) (hG.st hS)) ?_
  rintro _ X32 w ⟨a32, n32, c32, rfl, hl32, hm32, hc32, hR32⟩ hS
  have hS := St.tailin (X := X32) hS [(b5, .cells (#[I (((dcdD (Vector.replicate 16 0) P : Nat) : Int)), U64 (dcdS (Vector.replicate 16 0) P), U16 (dcdT (Vector.replicate 16 0) P), U16 (dcdM (Vector.replicate 16 0) P), .slice a27 n27 c27]) 33), (b2, .cells (#[I (1), U64 (7), U16 (258), U16 (3), .slice (some ⟨b15, 0, none⟩) 5 5]) 33), (b15, .cells (#[U8 (104), U8 (101), U8 (108), U8 (108), U8 (111)]) 5 (5, 5 + 1)), (t14, .cells (tableC c13 (Vector.replicate 16 0)) 60), (c13, .cells (cipherC (Vector.replicate 16 0)) 69)] (X27 ++ (X21 ++ [])) rfl
  refine mv rfl rfl rfl ?_
  refine ext rfl rfl rfl rfl ?_
  refine ext rfl rfl rfl rfl ?_
  refine ala zr33 hS rfl rfl ?_
  intro b7 w hb7 hS
  refine sa 0 ag33 hS rfl rfl rfl (by kernel_rfl) rfl rfl rfl ?_
  intro w hS
  refine asg rfl rfl rfl ?_
  refine wq_then ?_
  refine rg ?_
  refine mv rfl rfl rfl ?_
  refine cv cf7 hS rfl rfl rfl rfl rfl (sp_packet_Peek (a21) (n21) (c21) (P) _ hO21.len8 (by omega) (hO21.cel hS (fun p hp => by simp [hp])) (by omega)) ?_
  intro w hS
  refine mv rfl rfl rfl ?_
  refine ext rfl rfl rfl rfl ?_
  refine ext rfl rfl rfl rfl ?_
  refine ext rfl rfl rfl rfl ?_
  refine asg rfl rfl rfl ?_
  refine asg rfl rfl rfl ?_
  refine asg rfl rfl rfl ?_
  refine wq_then ?_
  refine rg ?_
  refine mv rfl rfl rfl ?_
  refine lens Tryd.underlying22 rfl rfl rfl ?_
  refine eqi rfl rfl rfl rfl ?_
  refine mv rfl rfl rfl ?_
  refine spl 44 rfl (fun hb1 => ?_) (fun hb1 => ?_)
  · skip
    try simp only [SB] at hb1
    refine mv rfl rfl rfl ?_
    refine eqE (C := 46) (c := (chk 1 7 5)) Tryd.underlying43 rfl rfl rfl ?_
    refine pk_t rfl rfl rfl rfl ?_
    refine mv rfl rfl rfl ?_
    refine spl 48 rfl (fun hb2 => ?_) (fun hb2 => ?_)
    · skip
      try simp only [SB] at hb2
      refine la 1 ag33 hS rfl rfl rfl rfl rfl ?_
      refine la 2 ag33 hS rfl rfl rfl rfl rfl ?_
      refine cv cf11 hS rfl rfl rfl rfl rfl (sp_mooringref17_Same (((dcdD (Vector.replicate 16 0) P : Nat) : Int)) ((dcdS (Vector.replicate 16 0) P)) ((dcdT (Vector.replicate 16 0) P)) ((dcdM (Vector.replicate 16 0) P)) (a27) (n27) (c27) ((dcdP (Vector.replicate 16 0) P)) (1) (7) (258) (3) ((some ⟨b15, 0, none⟩)) (5) (5) (([104, 101, 108, 108, 111])) _ hl27 (by omega) (hR27 _ _ _ _ hS (fun p hp => by simp [hp])) (by first | rfl | omega | (simp; omega) | (simp; done)) (by omega) (Cel.lb (l := [104, 101, 108, 108, 111]) (hS.get 3 rfl))) ?_
      intro w hS
      refine pk_t rfl rfl rfl rfl ?_
      refine mv rfl rfl rfl ?_
      refine spl 53 rfl (fun hb3 => ?_) (fun hb3 => ?_)
      · skip
        try simp only [SB] at hb3
        refine mv rfl rfl rfl ?_
        refine eqE (C := 46) (c := (dcdE (Vector.replicate 16 0) P)) Tryd.underlying43 rfl rfl rfl ?_
        refine pk_t rfl rfl rfl rfl ?_
        refine mv rfl rfl rfl ?_
        refine spl 57 rfl (fun hb4 => ?_) (fun hb4 => ?_)
        · skip
          try simp only [SB] at hb4
          refine mv rfl rfl rfl ?_
          refine mki cc46 rfl rfl rfl ?_
          refine eqEE (c := (dcdE (Vector.replicate 16 0) ([]))) Tryd.underlying43 ec46 rfl rfl rfl rfl ?_
          refine pk_t rfl rfl rfl rfl ?_
          refine mv rfl rfl rfl ?_
          refine spl 62 rfl (fun hb5 => ?_) (fun hb5 => ?_)
          · skip
            try simp only [SB] at hb5
            refine mv rfl rfl rfl ?_
            refine eqi rfl rfl rfl rfl ?_
            refine pk_t rfl rfl rfl rfl ?_
            refine mv rfl rfl rfl ?_
            refine spl 66 rfl (fun hb6 => ?_) (fun hb6 => ?_)
            · skip
              try simp only [SB] at hb6
              refine mv rfl rfl rfl ?_
              refine eqi rfl rfl rfl rfl ?_
              refine pk_t rfl rfl rfl rfl ?_
              refine mv rfl rfl rfl ?_
              refine spl 70 rfl (fun hb7 => ?_) (fun hb7 => ?_)
              · skip
                try simp only [SB] at hb7
                refine mv rfl rfl rfl ?_
                refine pk_t rfl rfl rfl rfl ?_
                refine mv rfl rfl rfl ?_
                refine spl 73 rfl (fun hb8 => ?_) (fun hb8 => ?_)
                · skip
                  try simp only [SB] at hb8
                  refine cv cf8 hS rfl rfl rfl rfl rfl (sp_packet_Size (5) _) ?_
                  intro w hS
                  refine eqi rfl rfl rfl rfl ?_
                  refine pk_t rfl rfl rfl rfl ?_
                  refine mv rfl rfl rfl ?_
                  refine spl 77 rfl (fun hb9 => ?_) (fun hb9 => ?_)
                  · skip
                    try simp only [SB] at hb9
                    refine la 2 ag33 hS rfl rfl rfl rfl rfl ?_
                    refine cv cf18 hS rfl rfl rfl rfl rfl (sp_packet_Right (1) (7) (258) (3) ((some ⟨b15, 0, none⟩)) (5) (5) _) ?_
                    intro w hS
                    refine pk_t rfl rfl rfl rfl ?_
                    refine mv rfl rfl rfl ?_
                    refine spl 81 rfl (fun hb10 => ?_) (fun hb10 => ?_)
                    · skip
                      try simp only [SB] at hb10
                      refine la 2 ag33 hS rfl rfl rfl rfl rfl ?_
                      refine la 2 ag33 hS rfl rfl rfl rfl rfl ?_
                      refine cv cf10 hS rfl rfl rfl rfl rfl (sp_packet_Same (1) (7) (258) (3) ((some ⟨b15, 0, none⟩)) (5) (5) (([104, 101, 108, 108, 111])) (1) (7) (258) (3) ((some ⟨b15, 0, none⟩)) (5) (5) (([104, 101, 108, 108, 111])) _ (by first | rfl | omega | (simp; omega) | (simp; done)) (by omega) (Cel.lb (l := [104, 101, 108, 108, 111]) (hS.get 3 rfl)) (by first | rfl | omega | (simp; omega) | (simp; done)) (by omega) (Cel.lb (l := [104, 101, 108, 108, 111]) (hS.get 3 rfl))) ?_
                      intro w hS
                      refine pk_t rfl rfl rfl rfl ?_
                      refine mv rfl rfl rfl ?_
                      refine spl 86 rfl (fun hb11 => ?_) (fun hb11 => ?_)
                      · skip
                        try simp only [SB] at hb11
                        refine la 2 ag33 hS rfl rfl rfl rfl rfl ?_
                        refine bd (cs := #[I (0), U64 (0), U16 (0), U16 (0), (.slice none 0 0)]) rfl rfl rfl (by kernel_rfl) ?_
                        refine cv cf10 hS rfl rfl rfl rfl rfl (sp_packet_Same (1) (7) (258) (3) ((some ⟨b15, 0, none⟩)) (5) (5) (([104, 101, 108, 108, 111])) (0) (0) (0) (0) (none) (0) (0) (([])) _ (by first | rfl | omega | (simp; omega) | (simp; done)) (by omega) (Cel.lb (l := [104, 101, 108, 108, 111]) (hS.get 3 rfl)) rfl (by omega) (Cel.nil _ _)) ?_
                        intro w hS
                        refine notb rfl rfl rfl ?_
                        refine pk_t rfl rfl rfl rfl ?_
                        refine asg rfl rfl rfl ?_
                        refine wq_then ?_
                        refine wc_ret ?_
                        refine fin1 (v := .bool (!(sameV (restV 1 7 258 3) (restV 0 0 0 0) ([104, 101, 108, 108, 111]) ([])))) rfl rfl ?_
                        refine ⟨?_, hS.drop⟩
                        rw [sameV_f (by decide)]; rfl
                      · skip
                        try simp only [SB] at hb11
                        rw [sameV_self] at hb11; cases hb11
                    · skip
                      try simp only [SB] at hb10
                      exact absurd (by decide) hb10
                  · skip
                    try simp only [SB] at hb9
                    exact absurd (by decide) hb9
                · skip
                  try simp only [SB] at hb8
                  have h1 : n21 = 33 := (by omega); exact absurd (show lng n21 = 0 by rw [h1]; decide) (by simpa using hb8)
              · skip
                try simp only [SB] at hb7
                exact absurd (by rw [aQ]; rfl) hb7
            · skip
              try simp only [SB] at hb6
              exact absurd (by rw [aD]; rfl) hb6
          · skip
            try simp only [SB] at hb5
            exact absurd (by rw [dcdE_nil]; decide) hb5
        · skip
          try simp only [SB] at hb4
          exact absurd aE hb4
      · skip
        try simp only [SB] at hb3
        rw [aS] at hb3; cases hb3
    · skip
      try simp only [SB] at hb2
      exact absurd (by decide) hb2
  · skip
    try simp only [SB] at hb1
    omega
end Go.Proofs.XX

/- From a row's reading of the arguments to what the walks ask; and back. -/
namespace Go.X
open Go Go.ChangeShapes Go.WideShapes Go.ChangeAt Go.RowKit Go.Deep

section
variable {H : Type} {enc : TypeId × Value → H} {P : Program} {w : World} {base : Nat} {spare : Nat → Bool} {held : Bool} {fuel : Nat}

def u8of (z : Int) : UInt8 := UInt8.ofNat z.toNat
theorem u8_wf {z : Int} (h : (Lit.int .u8 z).wf = true) : (.int .u8 z : Value) = U8 (u8of z) := by
  simp [Lit.wf, IntKind.min, IntKind.max, IntKind.signed, IntKind.bits] at h
  have : ((u8of z).toNat : Int) = z := by simp only [u8of, UInt8.toNat_ofNat']; omega
  show Value.int .u8 z = .int .u8 ((u8of z).toNat : Int)
  rw [this]
theorem u16_wf {z : Int} (h : (Lit.int .u16 z).wf = true) : (.int .u16 z : Value) = U16 (UInt16.ofNat z.toNat) := by
  simp [Lit.wf, IntKind.min, IntKind.max, IntKind.signed, IntKind.bits] at h
  have : ((UInt16.ofNat z.toNat).toNat : Int) = z := by simp only [UInt16.toNat_ofNat']; omega
  show Value.int .u16 z = .int .u16 ((UInt16.ofNat z.toNat).toNat : Int)
  rw [this]
theorem u64_wf {z : Int} (h : (Lit.int .u64 z).wf = true) : (.int .u64 z : Value) = U64 (UInt64.ofNat z.toNat) := by
  simp [Lit.wf, IntKind.min, IntKind.max, IntKind.signed, IntKind.bits] at h
  have : ((UInt64.ofNat z.toNat).toNat : Int) = z := by simp only [UInt64.toNat_ofNat']; omega
  show Value.int .u64 z = .int .u64 ((UInt64.ofNat z.toNat).toNat : Int)
  rw [this]
theorem i64_wf {z : Int} (h : (Lit.int .i64 z).wf = true) : -9223372036854775808 ≤ z ∧ z < 9223372036854775808 := by
  simp [Lit.wf, IntKind.min, IntKind.max, IntKind.signed, IntKind.bits] at h
  omega
/-- a slice of bytes, opened -/
theorem opn_bytes {t e : TypeId} {v : Value} {x : DataW H × List MemPlace} (ht : P.underlying t = some (.slice e)) (he : P.underlying e = some (.int .u8)) (hc : P.cellsOf e = 1) (h : DataW.trod enc P w base spare held fuel t [v] = some x) :
    ∃ a n cap bs, v = .slice a n cap ∧ bs.length = n ∧ n ≤ cap ∧ Cel w a (c8 bs) := by
  rcases open_ints ht he hc h with ⟨h0, _⟩ | ⟨a, len, cap, zs, h0, _, hl, _, hz, _, hcell, hwf⟩
  · exact ⟨none, 0, 0, [], by simpa using h0, rfl, Nat.le_refl _, Cel.nil _ _⟩
  · have hlen : len ≤ zs.length := by rw [hz]; split <;> omega
    refine ⟨some a, len, cap, (zs.take len).map u8of, by simpa using h0, by simp; omega, hl, fun j v hj => ⟨rfl, ?_⟩⟩
    have hjl : j < len := by
      have := (List.getElem?_eq_some_iff.1 hj).1
      simp [c8] at this; omega
    have hjz : j < zs.length := by omega
    have h1 := hcell j hjz
    have h2 : zs.getD j 0 = zs[j] := by simp [hjz]
    have h3 := u8_wf (hwf zs[j] (List.getElem_mem hjz))
    have h4 : (c8 ((zs.take len).map u8of))[j]? = some (U8 (u8of zs[j])) := by
      simp [c8, List.getElem?_take, hjl, hjz]
    rw [h4] at hj
    obtain rfl := Option.some.inj hj
    rw [h2, h3] at h1
    have e : adr (some a) j = a.add j := rfl
    rw [e]; exact h1
theorem opn_i64 {t : TypeId} {v : Value} {x : DataW H × List MemPlace} (ht : P.underlying t = some (.int .i64)) (h : DataW.trod enc P w base spare held fuel t [v] = some x) : ∃ z : Int, v = I z ∧ -9223372036854775808 ≤ z ∧ z < 9223372036854775808 := by
  obtain ⟨z, h1, _, h2⟩ := DataW.trod_int ht h
  exact ⟨z, by simpa using h1, i64_wf h2⟩
theorem opn_u64 {t : TypeId} {v : Value} {x : DataW H × List MemPlace} (ht : P.underlying t = some (.int .u64)) (h : DataW.trod enc P w base spare held fuel t [v] = some x) : ∃ z : UInt64, v = U64 z := by
  obtain ⟨z, h1, _, h2⟩ := DataW.trod_int ht h
  exact ⟨_, by rw [← u64_wf h2]; simpa using h1⟩
theorem opn_u16 {t : TypeId} {v : Value} {x : DataW H × List MemPlace} (ht : P.underlying t = some (.int .u16)) (h : DataW.trod enc P w base spare held fuel t [v] = some x) : ∃ z : UInt16, v = U16 z := by
  obtain ⟨z, h1, _, h2⟩ := DataW.trod_int ht h
  exact ⟨_, by rw [← u16_wf h2]; simpa using h1⟩
/-- an argument of one cell -/
theorem trod_one {t : TypeId} {v : Value} {d : DataW H} {ps : List MemPlace} (hv : v.cells = #[v]) (h : DataW.Trod enc P w base spare held t v d ps) : ∃ fuel, DataW.trod enc P w base spare held fuel t [v] = some (d, ps) := by
  obtain ⟨fuel, hf⟩ := h
  rw [hv] at hf
  exact ⟨fuel, hf⟩
theorem arg_bytes {r : Reach} {b0 : Nat} {t e : TypeId} {v : Value} {d : DataW H} {ps : List MemPlace} (ht : P.underlying t = some (.slice e)) (he : P.underlying e = some (.int .u8)) (hc : P.cellsOf e = 1) (hv : Value.okWide P w r b0 t v) (h : DataW.Trod enc P w base spare held t v d ps) :
    ∃ a n cap bs, v = .slice a n cap ∧ bs.length = n ∧ n ≤ cap ∧ Cel w a (c8 bs) := by
  obtain ⟨a, l, c, rfl⟩ := okWide_slice ht hv
  obtain ⟨fuel, hf⟩ := trod_one rfl h
  exact opn_bytes ht he hc hf
theorem arg_i64 {r : Reach} {b0 : Nat} {t : TypeId} {v : Value} {d : DataW H} {ps : List MemPlace} (ht : P.underlying t = some (.int .i64)) (hv : Value.okWide P w r b0 t v) (h : DataW.Trod enc P w base spare held t v d ps) : ∃ z : Int, v = I z ∧ -9223372036854775808 ≤ z ∧ z < 9223372036854775808 := by
  obtain ⟨n, rfl, _, _, hw⟩ := open_int ht hv h
  exact ⟨n, rfl, i64_wf hw⟩
theorem arg_u16 {r : Reach} {b0 : Nat} {t : TypeId} {v : Value} {d : DataW H} {ps : List MemPlace} (ht : P.underlying t = some (.int .u16)) (hv : Value.okWide P w r b0 t v) (h : DataW.Trod enc P w base spare held t v d ps) : ∃ z : UInt16, v = U16 z := by
  obtain ⟨n, rfl, _, _, hw⟩ := open_int ht hv h
  exact ⟨_, u16_wf hw⟩
theorem arg_u64 {r : Reach} {b0 : Nat} {t : TypeId} {v : Value} {d : DataW H} {ps : List MemPlace} (ht : P.underlying t = some (.int .u64)) (hv : Value.okWide P w r b0 t v) (h : DataW.Trod enc P w base spare held t v d ps) : ∃ z : UInt64, v = U64 z := by
  obtain ⟨n, rfl, _, _, hw⟩ := open_int ht hv h
  exact ⟨_, u64_wf hw⟩
/-- a packet -/
theorem arg_packet {r : Reach} {b0 : Nat} {t e : TypeId} {f0 f1 f2 f3 f4 : Field} {v : Value} {d : DataW H} {ps : List MemPlace} (ht : P.underlying t = some (.struct #[f0, f1, f2, f3, f4])) (hone : oneCellFields P #[f0, f1, f2, f3, f4] = true) (hC : P.cellsOf t = 5)
    (h0 : P.underlying f0.type = some (.int .i64)) (h1 : P.underlying f1.type = some (.int .u64)) (h2 : P.underlying f2.type = some (.int .u16)) (h3 : P.underlying f3.type = some (.int .u16)) (h4 : P.underlying f4.type = some (.slice e))
    (he : P.underlying e = some (.int .u8)) (hc : P.cellsOf e = 1) (hv : Value.okWide P w r b0 t v) (h : DataW.Trod enc P w base spare held t v d ps) :
    ∃ dr s tm ec a n cap bs, v = .agg #[I dr, U64 s, U16 tm, U16 ec, .slice a n cap] ∧ (-9223372036854775808 ≤ dr ∧ dr < 9223372036854775808) ∧ bs.length = n ∧ n ≤ cap ∧ Cel w a (c8 bs) := by
  obtain ⟨cs, rfl, hsz⟩ := okWide_struct ht hv
  obtain ⟨fuel, hf⟩ := h
  obtain ⟨xs, n, _, _, _, _, hg⟩ := DataW.trod_struct ht hf
  obtain ⟨l⟩ := cs
  rw [hC] at hsz
  match l, hsz with
  | [c0, c1, c2, c3, c4], _ =>
    have fld : ∀ (i : Nat) (f : Field) (c : Value), (#[f0, f1, f2, f3, f4] : Array Field)[i]? = some f → [c0, c1, c2, c3, c4][i]? = some c → ∃ y, DataW.trod enc P w base spare held n f.type [c] = some y := by
      intro i f c hi hci
      obtain ⟨o, k⟩ := hone_of hone i f hi
      have h5 := hg i f hi
      rw [o, k] at h5
      have hx : xs.length = 5 := by
        have : xs.length = (#[f0, f1, f2, f3, f4] : Array Field).size := by assumption
        simpa using this
      have hi5 : i < 5 := by simpa using (List.getElem?_eq_some_iff.1 hci).1
      have e1 : (((Value.agg ⟨[c0, c1, c2, c3, c4]⟩).cells.toList.drop i).take 1) = [c] := by
        have e2 : (Value.agg ⟨[c0, c1, c2, c3, c4]⟩).cells.toList = [c0, c1, c2, c3, c4] := rfl
        rw [e2]
        have hlt := (List.getElem?_eq_some_iff.1 hci).1
        have := (List.getElem?_eq_some_iff.1 hci).2
        rw [List.drop_eq_getElem_cons hlt, this]; rfl
      rw [e1] at h5
      exact ⟨xs[i]'(by omega), by rw [h5, List.getElem?_eq_getElem (by omega)]⟩
    obtain ⟨y0, k0⟩ := fld 0 f0 c0 rfl rfl
    obtain ⟨y1, k1⟩ := fld 1 f1 c1 rfl rfl
    obtain ⟨y2, k2⟩ := fld 2 f2 c2 rfl rfl
    obtain ⟨y3, k3⟩ := fld 3 f3 c3 rfl rfl
    obtain ⟨y4, k4⟩ := fld 4 f4 c4 rfl rfl
    obtain ⟨dr, rfl, hd1, hd2⟩ := opn_i64 h0 k0
    obtain ⟨s, rfl⟩ := opn_u64 h1 k1
    obtain ⟨tm, rfl⟩ := opn_u16 h2 k2
    obtain ⟨ec, rfl⟩ := opn_u16 h3 k3
    obtain ⟨a, m, cap, bs, rfl, hb, hl, hcel⟩ := opn_bytes h4 he hc k4
    exact ⟨dr, s, tm, ec, a, m, cap, bs, rfl, ⟨hd1, hd2⟩, hb, hl, hcel⟩
/-- an array of bytes -/
theorem arg_array {r : Reach} {b0 m : Nat} {t e : TypeId} {v : Value} {d : DataW H} {ps : List MemPlace} (ht : P.underlying t = some (.array m e)) (he : P.underlying e = some (.int .u8)) (hc : P.cellsOf e = 1) (hC : P.cellsOf t = m)
    (hv : Value.okWide P w r b0 t v) (h : DataW.Trod enc P w base spare held t v d ps) : ∃ k : V8 m, v = .agg (BV k) := by
  have hv' := hv
  simp only [Value.okWide, ht] at hv'
  obtain ⟨cs, rfl, hsz, _⟩ := hv'
  rw [hC] at hsz
  obtain ⟨fuel, hf⟩ := h
  obtain ⟨xs, n, _, _, _, hxl, hg⟩ := DataW.trod_array ht hf
  have each : ∀ i (hi : i < m), ∃ z, cs[i]? = some (U8 z) := by
    intro i hi
    have h5 := hg i hi
    rw [hc, Nat.mul_one] at h5
    have hlt : i < cs.toList.length := by simp; omega
    have e1 : (((Value.agg cs).cells.toList.drop i).take 1) = [cs.toList[i]] := by
      have e2 : (Value.agg cs).cells = cs := rfl
      rw [e2, List.drop_eq_getElem_cons hlt]; rfl
    rw [e1, List.getElem?_eq_getElem (by omega)] at h5
    obtain ⟨z, h6, _, h7⟩ := DataW.trod_int he h5
    refine ⟨u8of z, ?_⟩
    rw [← u8_wf h7]
    have h8 : cs.toList[i] = .int .u8 z := by simpa using h6
    have hlt' : i < cs.size := by omega
    rw [Array.getElem?_eq_getElem hlt']
    simpa using h8
  refine ⟨Vector.ofFn fun i => (each i.val i.isLt).choose, ?_⟩
  congr 1
  apply arr_ext; intro i
  by_cases hi : i < m
  · rw [(each i hi).choose_spec, BV_get', if_pos hi, gv_ofFn _ _ hi]
  · rw [Array.getElem?_eq_none (by omega), BV_get', if_neg hi]

/-- the arguments read behind the call as before -/
theorem args_below {ts : List TypeId} {vs : List Value} {ds : List (DataW H)} {ps : List MemPlace} {W W' : World} (hl : laidOutB P = true) (hr : ∀ t ∈ ts, P.readableRec t = true ∧ t < P.types.size)
    (h : DataW.TrodAll enc P W 0 (fun _ => true) true ts vs ds ps) (hb : Below W.heap.size W W') (hlt : ∀ x ∈ ps, x.block < W.heap.size) : DataW.TrodAll enc P W' 0 (fun b => decide (b < W.heap.size)) true ts vs ds ps := by
  induction ts generalizing vs ds ps with
  | nil => obtain ⟨rfl, rfl, rfl⟩ := trodAll_nil h; rfl
  | cons t ts ih =>
    obtain ⟨v, vs', d, ds', p, q, rfl, rfl, rfl, h0, r0⟩ := trodAll_cons h
    exact trodAll_cons_mk (Below.trod hl (hr t (by simp)).1 (hr t (by simp)).2 h0 hb (fun x hx => hlt x (by simp [hx]))) (ih (fun u hu => hr u (by simp [hu])) r0 (fun x hx => hlt x (by simp [hx])))

def deBz : List Int := [0, 1, 56, 2, 57, 49, 28, 3, 61, 58, 42, 50, 38, 29, 17, 4, 62, 47, 59, 36, 45, 43, 51, 22, 53, 39, 33, 30, 24, 18, 12, 5, 63, 55, 48, 27, 60, 41, 37, 16, 46, 35, 44, 21, 52, 32, 23, 11, 54, 26, 40, 15, 34, 20, 31, 10, 25, 14, 19, 9, 13, 8, 7, 6]
theorem gl_of_tab {W : World} {g : Nat} {name : String} (hg : P.globalNamed name = some g) (h : Lib.TabIs P W name .u8 deBz) : Gl g W := by
  intro j v hj
  refine ⟨rfl, ?_⟩
  have hlt : j < 64 := by
    have := (List.getElem?_eq_some_iff.1 hj).1
    simpa [c8, deBl] using this
  have h1 := h.cell hg j (by simpa [deBz] using hlt)
  have h2 : ∀ i : Fin 64, deBz.getD i.val 0 = ((gl deBl i.val).toNat : Int) := by decide +kernel
  have h3 := h2 ⟨j, hlt⟩
  rw [c8_get deBl j (by simpa [deBl] using hlt)] at hj
  obtain rfl := Option.some.inj hj
  simp only [] at h3
  rw [adr_some, Nat.zero_add, h1, h3]
end
end Go.X
