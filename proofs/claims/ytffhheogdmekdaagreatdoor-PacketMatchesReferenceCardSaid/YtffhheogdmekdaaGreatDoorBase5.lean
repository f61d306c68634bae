/- Part 5 of the ground of this seat's proofs: rules of a calculus of walks, and what the functions of the lower layers compute; no conditions beyond those that each statement bears. -/
import Derived.Test.YtffhheogdmekdaaGreatDoorBase4
import Derived.WalkKit
import Derived.ProofKit
import Derived.OpenShut
import Derived.Deep.DeepHandedRow
import Derived.Deep.Fields
import Derived.Lib.LaidTab
import Derived.Carry
set_option linter.unusedVariables false
set_option linter.unusedSimpArgs false
set_option linter.unnecessarySimpa false
/- walks -/
namespace Go.Proofs.XZ
open Go Go.X Go.Proofs
set_option maxRecDepth 100000 in
set_option maxHeartbeats 1600000 in
theorem sp_open_Decrypt (t c : Nat) (key : V8 16) (nonce : V8 12) (a : Option Addr) (n cap : Nat) (bs : List UInt8) (w0 : World) (hT : TabAt w0 t c key) (hn : bs.length = n) (hN : n ≤ 1000000) (hc : Cel w0 a (c8 bs)) (hcap : n ≤ cap) (hG : Gl 0 w0) : Calls Tryz.prog 57 #[Ptr t 0, .agg (BV nonce), .slice a n cap] w0 (RetS w0 (fun v X => ∃ a' c', v = .tuple #[.slice a' n c', .agg (BV (decC key nonce bs)), .agg (BV (cryO key nonce n))] ∧ Own 1 a' n c' (c8 (decT key nonce bs)) X)) := by
  refine enterM (args := [Ptr t 0, .agg (BV nonce), .slice a n cap]) Tryz.func57 rfl rfl ?_
  refine startw fun w hS => ?_
  obtain ⟨⟨T, hT1⟩, E, hC⟩ := id hT
  refine rg ?_
  refine bx1 hS rfl rfl rfl rfl ?_
  intro b3 w hb3 hS
  refine bxa hS rfl rfl rfl ?_
  intro b4 w hb4 hS
  refine al1 zr25 hS rfl rfl rfl ?_
  intro b6 w hb6 hS
  refine ala zr22 hS rfl rfl ?_
  intro b7 w hb7 hS
  refine ala zr22 hS rfl rfl ?_
  intro b8 w hb8 hS
  refine wq_then ?_
  refine rg ?_
  refine lo 4 sc30 hS rfl rfl rfl rfl rfl ?_
  refine la 3 ag81 hS rfl rfl rfl rfl (BV_size _) ?_
  refine cv cf77 hS rfl rfl rfl rfl rfl (sp_offset_Start (t) (c) (key) (nonce) _ (hT.st hS)) ?_
  intro w hS
  refine sa 0 ag22 hS rfl rfl rfl (BV_one _) rfl (BV_size _) (BV_size _) ?_
  intro w hS
  refine wq_then ?_
  refine rg ?_
  refine mkf rfl rfl rfl ?_
  refine al1 zr137 hS rfl rfl rfl ?_
  intro b9 w hb9 hS
  refine st 0 sz137 hS rfl rfl rfl rfl rfl rfl Nat.zero_lt_one rfl ?_
  intro w hS
  refine wq_then ?_
  refine wc_seq ?_
  refine rg ?_
  refine mv rfl rfl rfl ?_
  refine cs cf79 hS rfl rfl rfl rfl rfl (sp_block_All (a) (n) (cap) _) ?_
  rintro _ _ w ⟨b23, rfl, rfl⟩ hS
  refine wq_then ?_
  refine wc_block ?_
  refine wc_range2 (m := 0) (fun k => I ((k + 1 : Nat) : Int)) (fun k => .agg (BV (blk bs k))) (n / 16) (fun W => W.heap[b23]? = some (.cells #[.slice a n cap] 25) ∧ Cel W a (c8 bs)) (fun k L => ∃ s : Option Addr × Nat × List (Nat × Obj), (Own 1 s.1 (k * 16) s.2.1 (c8 (deT key nonce bs k)) s.2.2) ∧ L = ([(b23, .cells (#[(.slice a n cap)]) 25), (b9, .cells (#[.func (.func 87) #[] #[Ptr b6 0, Ptr b7 0]]) 137), (b8, .cells (BV (crO key nonce k)) 22), (b7, .cells (BV (deC key nonce bs k)) 22), (b6, .cells (#[.slice s.1 (k * 16) s.2.1]) 25), (b4, .cells (BV nonce) 81), (b3, .cells (#[Ptr t 0]) 30)] ++ (s.2.2 ++ []))) rfl cf108 rfl rfl hS ⟨(none, 0, []), Own.nil 1, rfl⟩ ?_ ?_ ?_ ?_
  · exact fun lp J W hJ hY h0 => sp_block_All_1 0 lp b23 _ n cap a bs J hn hN hcap hJ hY W h0
  · exact fun k L' W hL hS => by obtain ⟨s, hinv, rfl⟩ := hL; exact ⟨hS.get 0 rfl, hc.st hS⟩
  · rintro k lp D r _ w hr hp hk ⟨s, hO, rfl⟩ hS
    have hS : St w0 [] ([(lp, .loop r), (D, .deferred (some [])), (b23, .cells (#[(.slice a n cap)]) 25), (b9, .cells (#[.func (.func 87) #[] #[Ptr b6 0, Ptr b7 0]]) 137), (b8, .cells (BV (crO key nonce k)) 22), (b7, .cells (BV (deC key nonce bs k)) 22), (b6, .cells (#[.slice s.1 (k * 16) s.2.1]) 25), (b4, .cells (BV nonce) 81), (b3, .cells (#[Ptr t 0]) 30)] ++ (s.2.2 ++ [])) w := hS
    have hx := toU64_ne (k + 1) (by omega) (by omega)
    refine rgi ?_
    refine wi rfl (asg rfl rfl rfl ?_)
    refine wqi_then ?_
    refine wci_region ?_
    refine wi rfl (ala zr22 hS rfl rfl ?_)
    intro b11 w hb11 hS
    refine wi rfl (sa 0 ag22 hS rfl rfl rfl (BV_one _) rfl (BV_size _) (BV_size _) ?_)
    intro w hS
    refine begin_q 1 hS rfl hr (fun w hS => wk_ci ?_)
    refine wci_block ?_
    refine rgi ?_
    refine wi rfl (lo 9 sc30 hS rfl rfl rfl rfl rfl ?_)
    refine wi rfl (la 5 ag22 hS rfl rfl rfl rfl (BV_size _) ?_)
    refine wi rfl (mv rfl rfl rfl ?_)
    refine wi rfl (cvu64 Tryz.underlying23 ⟨_, Tryz.underlying3⟩ rfl rfl rfl ?_)
    refine wi rfl (cv (v := .agg (BV (crO key nonce (k + 1)))) cf80 hS rfl rfl rfl rfl rfl (sp_offset_Next (t) (c) (key) ((crO key nonce k)) ((toU64 (((k + 1 : Nat) : Int)))) _ (hT.st hS) (by assumption) (hG.st hS)) ?_)
    intro w hS
    refine wi rfl (sa 5 ag22 hS rfl rfl rfl (BV_one _) rfl (BV_size _) (BV_size _) ?_)
    intro w hS
    refine wqi_then ?_
    refine rdi mo (by kernel_rfl) 9 (fun w => St w0 [] ([(b11, .cells (BV (blk bs k)) 22), (lp, .loop { r with state := .busy }), (D, .deferred (some [])), (b23, .cells (#[(.slice a n cap)]) 25), (b9, .cells (#[.func (.func 87) #[] #[Ptr b6 0, Ptr b7 0]]) 137), (b8, .cells (BV (crO key nonce (k + 1))) 22), (b7, .cells (BV (deC key nonce bs k)) 22), (b6, .cells (#[.slice s.1 (k * 16) s.2.1]) 25), (b4, .cells (BV nonce) 81), (b3, .cells (#[Ptr t 0]) 30)] ++ (s.2.2 ++ [])) w) ?_
    have hS := hS.drew
    refine dq 0 rfl (by kernel_rfl) (by kernel_rfl) (by kernel_rfl) rfl rfl (fun w hS => la 5 ag22 hS rfl rfl rfl rfl (BV_size _) ⟨rfl, rfl⟩) hS ?_
    refine dq 1 rfl (by kernel_rfl) (by kernel_rfl) (by kernel_rfl) rfl rfl (fun w hS => lo 9 sc30 hS rfl rfl rfl rfl rfl ⟨rfl, rfl⟩) hS ?_
    refine dq 3 rfl (by kernel_rfl) (by kernel_rfl) (by kernel_rfl) rfl rfl (fun w hS => la 0 ag22 hS rfl rfl rfl rfl (BV_size _) ⟨rfl, rfl⟩) hS ?_
    refine dq 4 rfl (by kernel_rfl) (by kernel_rfl) (by kernel_rfl) rfl rfl (fun w hS => la 5 ag22 hS rfl rfl rfl rfl (BV_size _) ⟨rfl, rfl⟩) hS ?_
    refine dl2 2 8 rfl rfl (by kernel_rfl) ?_ ?_
    · skip
      refine cv cf82 hS rfl rfl rfl rfl rfl (sp_table_Table_Cipher (t) (c) (key) _ (hT.st hS)) ?_
      intro w hS
      refine ⟨fun _ => hS, ?_⟩
      refine dl2 5 8 rfl rfl (by kernel_rfl) ?_ ?_
      · skip
        refine cv cf81 hS rfl rfl rfl rfl rfl (sp_block_Xor ((blk bs k)) ((crO key nonce (k + 1))) _) ?_
        intro w hS
        refine ⟨fun _ => hS, ?_⟩
        refine dl2 6 8 rfl rfl (by kernel_rfl) ?_ ?_
        · skip
          refine cv cf88 hS rfl rfl rfl rfl rfl (sp_fast_Cipher_Decrypt (c) (_) (key) ((xorV (blk bs k) (crO key nonce (k + 1)))) _ (hS.old hC List.not_mem_nil)) ?_
          intro w hS
          refine ⟨fun _ => hS, ?_⟩
          refine dl2 7 8 rfl rfl (by kernel_rfl) ?_ ?_
          · skip
            refine cv (v := .agg (BV (deB key nonce bs k))) cf81 hS rfl rfl rfl rfl rfl (sp_block_Xor ((crO key nonce (k + 1))) ((dec key (xorV (blk bs k) (crO key nonce (k + 1))))) _) ?_
            intro w hS
            refine ⟨fun _ => hS, ?_⟩
            refine dl 8 rfl (by kernel_rfl) ?_
            refine ala zr22 hS rfl rfl ?_
            intro b12 w hb12 hS
            refine ⟨fun _ => hS.tl, ?_⟩
            refine dl 9 rfl (by kernel_rfl) ?_
            refine sa 0 ag22 hS rfl rfl rfl (BV_one _) rfl (BV_size _) (BV_size _) ?_
            intro w hS
            refine ⟨fun h => (by cases h), ?_⟩
            refine de (by kernel_rfl) ?_
            refine wqi_then ?_
            refine wci_draw mo (by kernel_rfl) 3 (fun w => St w0 [] ([(b12, .cells (BV (deB key nonce bs k)) 22), (b11, .cells (BV (blk bs k)) 22), (lp, .loop { r with state := .busy }), (D, .deferred (some [])), (b23, .cells (#[(.slice a n cap)]) 25), (b9, .cells (#[.func (.func 87) #[] #[Ptr b6 0, Ptr b7 0]]) 137), (b8, .cells (BV (crO key nonce (k + 1))) 22), (b7, .cells (BV (deC key nonce bs k)) 22), (b6, .cells (#[.slice s.1 (k * 16) s.2.1]) 25), (b4, .cells (BV nonce) 81), (b3, .cells (#[Ptr t 0]) 30)] ++ (s.2.2 ++ [])) w) ?_
            have hS := hS.drew
            refine dq 0 rfl (by kernel_rfl) (by kernel_rfl) (by kernel_rfl) rfl rfl (fun w hS => lo 5 sc137 hS rfl rfl rfl rfl rfl ⟨rfl, rfl⟩) hS ?_
            refine dq 1 rfl (by kernel_rfl) (by kernel_rfl) (by kernel_rfl) rfl rfl (fun w hS => a_all Tryz.underlying22 ⟨_, sz5⟩ rfl rfl rfl ⟨rfl, rfl⟩) hS ?_
            refine dq 2 rfl (by kernel_rfl) (by kernel_rfl) (by kernel_rfl) rfl rfl (fun w hS => la 0 ag22 hS rfl rfl rfl rfl (BV_size _) ⟨rfl, rfl⟩) hS ?_
            refine dl 3 rfl (by kernel_rfl) ?_
            refine cl cf87 rfl rfl rfl rfl rfl (sp_open_Decrypt_1 (some ⟨b12, 0, none⟩) 16 16 ((deB key nonce bs k).toList) (deB key nonce bs k) (deC key nonce bs k) _ _ _ _ s.1 (k * 16) s.2.1 (deT key nonce bs k) s.2.2 _ Vector.length_toList (by omega) (Cel.bv (hS.get 0 rfl)) (hS.get 8 rfl) (hS.get 7 rfl) hO (fun p hp => (hS.own p (by simp [hp])).2) (St.nd2 (A := [(b12, .cells (BV (deB key nonce bs k)) 22), (b11, .cells (BV (blk bs k)) 22), (lp, .loop { r with state := .busy }), (D, .deferred (some [])), (b23, .cells (#[(.slice a n cap)]) 25), (b9, .cells (#[.func (.func 87) #[] #[Ptr b6 0, Ptr b7 0]]) 137), (b8, .cells (BV (crO key nonce (k + 1))) 22), (b7, .cells (BV (deC key nonce bs k)) 22), (b6, .cells (#[.slice s.1 (k * 16) s.2.1]) 25), (b4, .cells (BV nonce) 81), (b3, .cells (#[Ptr t 0]) 30)]) (R := []) (i := 8) (j := 7) hS rfl rfl)) ?_
            rintro _ w ⟨a42, c42, X42, ⟨v42, rfl⟩, hO42, hS1⟩
            refine ⟨_, rfl, ?_⟩
            have hS : St w0 [] ([(b12, .cells (BV (deB key nonce bs k)) 22), (b11, .cells (BV (blk bs k)) 22), (lp, .loop { r with state := .busy }), (D, .deferred (some [])), (b23, .cells (#[(.slice a n cap)]) 25), (b9, .cells (#[.func (.func 87) #[] #[Ptr b6 0, Ptr b7 0]]) 137), (b8, .cells (BV (crO key nonce (k + 1))) 22), (b7, .cells (BV (xorV (deC key nonce bs k) (deB key nonce bs k))) 22), (b6, .cells (#[.slice a42 ((k * 16) + 16) c42]) 25), (b4, .cells (BV nonce) 81), (b3, .cells (#[Ptr t 0]) 30)] ++ (X42 ++ [])) w := St.call_out2 (A := [(b12, .cells (BV (deB key nonce bs k)) 22), (b11, .cells (BV (blk bs k)) 22), (lp, .loop { r with state := .busy }), (D, .deferred (some [])), (b23, .cells (#[(.slice a n cap)]) 25), (b9, .cells (#[.func (.func 87) #[] #[Ptr b6 0, Ptr b7 0]]) 137), (b8, .cells (BV (crO key nonce (k + 1))) 22), (b7, .cells (BV (deC key nonce bs k)) 22), (b6, .cells (#[.slice s.1 (k * 16) s.2.1]) 25), (b4, .cells (BV nonce) 81), (b3, .cells (#[Ptr t 0]) 30)]) (A2 := [(b12, .cells (BV (deB key nonce bs k)) 22), (b11, .cells (BV (blk bs k)) 22), (lp, .loop { r with state := .busy }), (D, .deferred (some [])), (b23, .cells (#[(.slice a n cap)]) 25), (b9, .cells (#[.func (.func 87) #[] #[Ptr b6 0, Ptr b7 0]]) 137), (b8, .cells (BV (crO key nonce (k + 1))) 22), (b7, .cells (BV (xorV (deC key nonce bs k) (deB key nonce bs k))) 22), (b6, .cells (#[.slice a42 ((k * 16) + 16) c42]) 25), (b4, .cells (BV nonce) 81), (b3, .cells (#[Ptr t 0]) 30)]) (i := 8) (j := 7) hS rfl rfl rfl rfl rfl hS1
            refine ⟨fun h => (by cases h), ?_⟩
            refine de (by kernel_rfl) ?_
            refine q_block_norm ?_
            refine end_q 2 hS rfl hr hp (fun w hS => ?_)
            have e16 : k * 16 + 16 = (k + 1) * 16 := by omega
            rw [e16] at hS hO42
            exact ⟨rfl, _, ⟨(a42, c42, X42), hO42, rfl⟩, hS.tl.tl⟩
          · skip
            refine ala zr22 hS rfl rfl ?_
            intro b12 w hb12 hS
            refine ⟨fun _ => hS.tl, ?_⟩
            refine dl 7 rfl (by kernel_rfl) ?_
            refine cv (v := .agg (BV (deB key nonce bs k))) cf81 hS rfl rfl rfl rfl rfl (sp_block_Xor ((crO key nonce (k + 1))) ((dec key (xorV (blk bs k) (crO key nonce (k + 1))))) _) ?_
            intro w hS
            refine ⟨fun _ => hS.tl, ?_⟩
            refine dl 9 rfl (by kernel_rfl) ?_
            refine sa 0 ag22 hS rfl rfl rfl (BV_one _) rfl (BV_size _) (BV_size _) ?_
            intro w hS
            refine ⟨fun h => (by cases h), ?_⟩
            refine de (by kernel_rfl) ?_
            refine wqi_then ?_
            refine wci_draw mo (by kernel_rfl) 3 (fun w => St w0 [] ([(b12, .cells (BV (deB key nonce bs k)) 22), (b11, .cells (BV (blk bs k)) 22), (lp, .loop { r with state := .busy }), (D, .deferred (some [])), (b23, .cells (#[(.slice a n cap)]) 25), (b9, .cells (#[.func (.func 87) #[] #[Ptr b6 0, Ptr b7 0]]) 137), (b8, .cells (BV (crO key nonce (k + 1))) 22), (b7, .cells (BV (deC key nonce bs k)) 22), (b6, .cells (#[.slice s.1 (k * 16) s.2.1]) 25), (b4, .cells (BV nonce) 81), (b3, .cells (#[Ptr t 0]) 30)] ++ (s.2.2 ++ [])) w) ?_
            have hS := hS.drew
            refine dq 0 rfl (by kernel_rfl) (by kernel_rfl) (by kernel_rfl) rfl rfl (fun w hS => lo 5 sc137 hS rfl rfl rfl rfl rfl ⟨rfl, rfl⟩) hS ?_
            refine dq 1 rfl (by kernel_rfl) (by kernel_rfl) (by kernel_rfl) rfl rfl (fun w hS => a_all Tryz.underlying22 ⟨_, sz5⟩ rfl rfl rfl ⟨rfl, rfl⟩) hS ?_
            refine dq 2 rfl (by kernel_rfl) (by kernel_rfl) (by kernel_rfl) rfl rfl (fun w hS => la 0 ag22 hS rfl rfl rfl rfl (BV_size _) ⟨rfl, rfl⟩) hS ?_
            refine dl 3 rfl (by kernel_rfl) ?_
            refine cl cf87 rfl rfl rfl rfl rfl (sp_open_Decrypt_1 (some ⟨b12, 0, none⟩) 16 16 ((deB key nonce bs k).toList) (deB key nonce bs k) (deC key nonce bs k) _ _ _ _ s.1 (k * 16) s.2.1 (deT key nonce bs k) s.2.2 _ Vector.length_toList (by omega) (Cel.bv (hS.get 0 rfl)) (hS.get 8 rfl) (hS.get 7 rfl) hO (fun p hp => (hS.own p (by simp [hp])).2) (St.nd2 (A := [(b12, .cells (BV (deB key nonce bs k)) 22), (b11, .cells (BV (blk bs k)) 22), (lp, .loop { r with state := .busy }), (D, .deferred (some [])), (b23, .cells (#[(.slice a n cap)]) 25), (b9, .cells (#[.func (.func 87) #[] #[Ptr b6 0, Ptr b7 0]]) 137), (b8, .cells (BV (crO key nonce (k + 1))) 22), (b7, .cells (BV (deC key nonce bs k)) 22), (b6, .cells (#[.slice s.1 (k * 16) s.2.1]) 25), (b4, .cells (BV nonce) 81), (b3, .cells (#[Ptr t 0]) 30)]) (R := []) (i := 8) (j := 7) hS rfl rfl)) ?_
            rintro _ w ⟨a42, c42, X42, ⟨v42, rfl⟩, hO42, hS1⟩
            refine ⟨_, rfl, ?_⟩
            have hS : St w0 [] ([(b12, .cells (BV (deB key nonce bs k)) 22), (b11, .cells (BV (blk bs k)) 22), (lp, .loop { r with state := .busy }), (D, .deferred (some [])), (b23, .cells (#[(.slice a n cap)]) 25), (b9, .cells (#[.func (.func 87) #[] #[Ptr b6 0, Ptr b7 0]]) 137), (b8, .cells (BV (crO key nonce (k + 1))) 22), (b7, .cells (BV (xorV (deC key nonce bs k) (deB key nonce bs k))) 22), (b6, .cells (#[.slice a42 ((k * 16) + 16) c42]) 25), (b4, .cells (BV nonce) 81), (b3, .cells (#[Ptr t 0]) 30)] ++ (X42 ++ [])) w := St.call_out2 (A := [(b12, .cells (BV (deB key nonce bs k)) 22), (b11, .cells (BV (blk bs k)) 22), (lp, .loop { r with state := .busy }), (D, .deferred (some [])), (b23, .cells (#[(.slice a n cap)]) 25), (b9, .cells (#[.func (.func 87) #[] #[Ptr b6 0, Ptr b7 0]]) 137), (b8, .cells (BV (crO key nonce (k + 1))) 22), (b7, .cells (BV (deC key nonce bs k)) 22), (b6, .cells (#[.slice s.1 (k * 16) s.2.1]) 25), (b4, .cells (BV nonce) 81), (b3, .cells (#[Ptr t 0]) 30)]) (A2 := [(b12, .cells (BV (deB key nonce bs k)) 22), (b11, .cells (BV (blk bs k)) 22), (lp, .loop { r with state := .busy }), (D, .deferred (some [])), (b23, .cells (#[(.slice a n cap)]) 25), (b9, .cells (#[.func (.func 87) #[] #[Ptr b6 0, Ptr b7 0]]) 137), (b8, .cells (BV (crO key nonce (k + 1))) 22), (b7, .cells (BV (xorV (deC key nonce bs k) (deB key nonce bs k))) 22), (b6, .cells (#[.slice a42 ((k * 16) + 16) c42]) 25), (b4, .cells (BV nonce) 81), (b3, .cells (#[Ptr t 0]) 30)]) (i := 8) (j := 7) hS rfl rfl rfl rfl rfl hS1
            refine ⟨fun h => (by cases h), ?_⟩
            refine de (by kernel_rfl) ?_
            refine q_block_norm ?_
            refine end_q 2 hS rfl hr hp (fun w hS => ?_)
            have e16 : k * 16 + 16 = (k + 1) * 16 := by omega
            rw [e16] at hS hO42
            exact ⟨rfl, _, ⟨(a42, c42, X42), hO42, rfl⟩, hS.tl.tl⟩
        · skip
          refine ala zr22 hS rfl rfl ?_
          intro b12 w hb12 hS
          refine ⟨fun _ => hS.tl, ?_⟩
          refine dl 6 rfl (by kernel_rfl) ?_
          refine cv cf88 hS rfl rfl rfl rfl rfl (sp_fast_Cipher_Decrypt (c) (_) (key) ((xorV (blk bs k) (crO key nonce (k + 1)))) _ (hS.old hC List.not_mem_nil)) ?_
          intro w hS
          refine ⟨fun _ => hS.tl, ?_⟩
          refine dl 7 rfl (by kernel_rfl) ?_
          refine cv (v := .agg (BV (deB key nonce bs k))) cf81 hS rfl rfl rfl rfl rfl (sp_block_Xor ((crO key nonce (k + 1))) ((dec key (xorV (blk bs k) (crO key nonce (k + 1))))) _) ?_
          intro w hS
          refine ⟨fun _ => hS.tl, ?_⟩
          refine dl 9 rfl (by kernel_rfl) ?_
          refine sa 0 ag22 hS rfl rfl rfl (BV_one _) rfl (BV_size _) (BV_size _) ?_
          intro w hS
          refine ⟨fun h => (by cases h), ?_⟩
          refine de (by kernel_rfl) ?_
          refine wqi_then ?_
          refine wci_draw mo (by kernel_rfl) 3 (fun w => St w0 [] ([(b12, .cells (BV (deB key nonce bs k)) 22), (b11, .cells (BV (blk bs k)) 22), (lp, .loop { r with state := .busy }), (D, .deferred (some [])), (b23, .cells (#[(.slice a n cap)]) 25), (b9, .cells (#[.func (.func 87) #[] #[Ptr b6 0, Ptr b7 0]]) 137), (b8, .cells (BV (crO key nonce (k + 1))) 22), (b7, .cells (BV (deC key nonce bs k)) 22), (b6, .cells (#[.slice s.1 (k * 16) s.2.1]) 25), (b4, .cells (BV nonce) 81), (b3, .cells (#[Ptr t 0]) 30)] ++ (s.2.2 ++ [])) w) ?_
          have hS := hS.drew
          refine dq 0 rfl (by kernel_rfl) (by kernel_rfl) (by kernel_rfl) rfl rfl (fun w hS => lo 5 sc137 hS rfl rfl rfl rfl rfl ⟨rfl, rfl⟩) hS ?_
          refine dq 1 rfl (by kernel_rfl) (by kernel_rfl) (by kernel_rfl) rfl rfl (fun w hS => a_all Tryz.underlying22 ⟨_, sz5⟩ rfl rfl rfl ⟨rfl, rfl⟩) hS ?_
          refine dq 2 rfl (by kernel_rfl) (by kernel_rfl) (by kernel_rfl) rfl rfl (fun w hS => la 0 ag22 hS rfl rfl rfl rfl (BV_size _) ⟨rfl, rfl⟩) hS ?_
          refine dl 3 rfl (by kernel_rfl) ?_
          refine cl cf87 rfl rfl rfl rfl rfl (sp_open_Decrypt_1 (some ⟨b12, 0, none⟩) 16 16 ((deB key nonce bs k).toList) (deB key nonce bs k) (deC key nonce bs k) _ _ _ _ s.1 (k * 16) s.2.1 (deT key nonce bs k) s.2.2 _ Vector.length_toList (by omega) (Cel.bv (hS.get 0 rfl)) (hS.get 8 rfl) (hS.get 7 rfl) hO (fun p hp => (hS.own p (by simp [hp])).2) (St.nd2 (A := [(b12, .cells (BV (deB key nonce bs k)) 22), (b11, .cells (BV (blk bs k)) 22), (lp, .loop { r with state := .busy }), (D, .deferred (some [])), (b23, .cells (#[(.slice a n cap)]) 25), (b9, .cells (#[.func (.func 87) #[] #[Ptr b6 0, Ptr b7 0]]) 137), (b8, .cells (BV (crO key nonce (k + 1))) 22), (b7, .cells (BV (deC key nonce bs k)) 22), (b6, .cells (#[.slice s.1 (k * 16) s.2.1]) 25), (b4, .cells (BV nonce) 81), (b3, .cells (#[Ptr t 0]) 30)]) (R := []) (i := 8) (j := 7) hS rfl rfl)) ?_
          rintro _ w ⟨a42, c42, X42, ⟨v42, rfl⟩, hO42, hS1⟩
          refine ⟨_, rfl, ?_⟩
          have hS : St w0 [] ([(b12, .cells (BV (deB key nonce bs k)) 22), (b11, .cells (BV (blk bs k)) 22), (lp, .loop { r with state := .busy }), (D, .deferred (some [])), (b23, .cells (#[(.slice a n cap)]) 25), (b9, .cells (#[.func (.func 87) #[] #[Ptr b6 0, Ptr b7 0]]) 137), (b8, .cells (BV (crO key nonce (k + 1))) 22), (b7, .cells (BV (xorV (deC key nonce bs k) (deB key nonce bs k))) 22), (b6, .cells (#[.slice a42 ((k * 16) + 16) c42]) 25), (b4, .cells (BV nonce) 81), (b3, .cells (#[Ptr t 0]) 30)] ++ (X42 ++ [])) w := St.call_out2 (A := [(b12, .cells (BV (deB key nonce bs k)) 22), (b11, .cells (BV (blk bs k)) 22), (lp, .loop { r with state := .busy }), (D, .deferred (some [])), (b23, .cells (#[(.slice a n cap)]) 25), (b9, .cells (#[.func (.func 87) #[] #[Ptr b6 0, Ptr b7 0]]) 137), (b8, .cells (BV (crO key nonce (k + 1))) 22), (b7, .cells (BV (deC key nonce bs k)) 22), (b6, .cells (#[.slice s.1 (k * 16) s.2.1]) 25), (b4, .cells (BV nonce) 81), (b3, .cells (#[Ptr t 0]) 30)]) (A2 := [(b12, .cells (BV (deB key nonce bs k)) 22), (b11, .cells (BV (blk bs k)) 22), (lp, .loop { r with state := .busy }), (D, .deferred (some [])), (b23, .cells (#[(.slice a n cap)]) 25), (b9, .cells (#[.func (.func 87) #[] #[Ptr b6 0, Ptr b7 0]]) 137), (b8, .cells (BV (crO key nonce (k + 1))) 22), (b7, .cells (BV (xorV (deC key nonce bs k) (deB key nonce bs k))) 22), (b6, .cells (#[.slice a42 ((k * 16) + 16) c42]) 25), (b4, .cells (BV nonce) 81), (b3, .cells (#[Ptr t 0]) 30)]) (i := 8) (j := 7) hS rfl rfl rfl rfl rfl hS1
          refine ⟨fun h => (by cases h), ?_⟩
          refine de (by kernel_rfl) ?_
          refine q_block_norm ?_
          refine end_q 2 hS rfl hr hp (fun w hS => ?_)
          have e16 : k * 16 + 16 = (k + 1) * 16 := by omega
          rw [e16] at hS hO42
          exact ⟨rfl, _, ⟨(a42, c42, X42), hO42, rfl⟩, hS.tl.tl⟩
      · skip
        refine ala zr22 hS rfl rfl ?_
        intro b12 w hb12 hS
        refine ⟨fun _ => hS.tl, ?_⟩
        refine dl 5 rfl (by kernel_rfl) ?_
        refine cv cf81 hS rfl rfl rfl rfl rfl (sp_block_Xor ((blk bs k)) ((crO key nonce (k + 1))) _) ?_
        intro w hS
        refine ⟨fun _ => hS.tl, ?_⟩
        refine dl 6 rfl (by kernel_rfl) ?_
        refine cv cf88 hS rfl rfl rfl rfl rfl (sp_fast_Cipher_Decrypt (c) (_) (key) ((xorV (blk bs k) (crO key nonce (k + 1)))) _ (hS.old hC List.not_mem_nil)) ?_
        intro w hS
        refine ⟨fun _ => hS.tl, ?_⟩
        refine dl 7 rfl (by kernel_rfl) ?_
        refine cv (v := .agg (BV (deB key nonce bs k))) cf81 hS rfl rfl rfl rfl rfl (sp_block_Xor ((crO key nonce (k + 1))) ((dec key (xorV (blk bs k) (crO key nonce (k + 1))))) _) ?_
        intro w hS
        refine ⟨fun _ => hS.tl, ?_⟩
        refine dl 9 rfl (by kernel_rfl) ?_
        refine sa 0 ag22 hS rfl rfl rfl (BV_one _) rfl (BV_size _) (BV_size _) ?_
        intro w hS
        refine ⟨fun h => (by cases h), ?_⟩
        refine de (by kernel_rfl) ?_
        refine wqi_then ?_
        refine wci_draw mo (by kernel_rfl) 3 (fun w => St w0 [] ([(b12, .cells (BV (deB key nonce bs k)) 22), (b11, .cells (BV (blk bs k)) 22), (lp, .loop { r with state := .busy }), (D, .deferred (some [])), (b23, .cells (#[(.slice a n cap)]) 25), (b9, .cells (#[.func (.func 87) #[] #[Ptr b6 0, Ptr b7 0]]) 137), (b8, .cells (BV (crO key nonce (k + 1))) 22), (b7, .cells (BV (deC key nonce bs k)) 22), (b6, .cells (#[.slice s.1 (k * 16) s.2.1]) 25), (b4, .cells (BV nonce) 81), (b3, .cells (#[Ptr t 0]) 30)] ++ (s.2.2 ++ [])) w) ?_
        have hS := hS.drew
        refine dq 0 rfl (by kernel_rfl) (by kernel_rfl) (by kernel_rfl) rfl rfl (fun w hS => lo 5 sc137 hS rfl rfl rfl rfl rfl ⟨rfl, rfl⟩) hS ?_
        refine dq 1 rfl (by kernel_rfl) (by kernel_rfl) (by kernel_rfl) rfl rfl (fun w hS => a_all Tryz.underlying22 ⟨_, sz5⟩ rfl rfl rfl ⟨rfl, rfl⟩) hS ?_
        refine dq 2 rfl (by kernel_rfl) (by kernel_rfl) (by kernel_rfl) rfl rfl (fun w hS => la 0 ag22 hS rfl rfl rfl rfl (BV_size _) ⟨rfl, rfl⟩) hS ?_
        refine dl 3 rfl (by kernel_rfl) ?_
        refine cl cf87 rfl rfl rfl rfl rfl (sp_open_Decrypt_1 (some ⟨b12, 0, none⟩) 16 16 ((deB key nonce bs k).toList) (deB key nonce bs k) (deC key nonce bs k) _ _ _ _ s.1 (k * 16) s.2.1 (deT key nonce bs k) s.2.2 _ Vector.length_toList (by omega) (Cel.bv (hS.get 0 rfl)) (hS.get 8 rfl) (hS.get 7 rfl) hO (fun p hp => (hS.own p (by simp [hp])).2) (St.nd2 (A := [(b12, .cells (BV (deB key nonce bs k)) 22), (b11, .cells (BV (blk bs k)) 22), (lp, .loop { r with state := .busy }), (D, .deferred (some [])), (b23, .cells (#[(.slice a n cap)]) 25), (b9, .cells (#[.func (.func 87) #[] #[Ptr b6 0, Ptr b7 0]]) 137), (b8, .cells (BV (crO key nonce (k + 1))) 22), (b7, .cells (BV (deC key nonce bs k)) 22), (b6, .cells (#[.slice s.1 (k * 16) s.2.1]) 25), (b4, .cells (BV nonce) 81), (b3, .cells (#[Ptr t 0]) 30)]) (R := []) (i := 8) (j := 7) hS rfl rfl)) ?_
        rintro _ w ⟨a42, c42, X42, ⟨v42, rfl⟩, hO42, hS1⟩
        refine ⟨_, rfl, ?_⟩
        have hS : St w0 [] ([(b12, .cells (BV (deB key nonce bs k)) 22), (b11, .cells (BV (blk bs k)) 22), (lp, .loop { r with state := .busy }), (D, .deferred (some [])), (b23, .cells (#[(.slice a n cap)]) 25), (b9, .cells (#[.func (.func 87) #[] #[Ptr b6 0, Ptr b7 0]]) 137), (b8, .cells (BV (crO key nonce (k + 1))) 22), (b7, .cells (BV (xorV (deC key nonce bs k) (deB key nonce bs k))) 22), (b6, .cells (#[.slice a42 ((k * 16) + 16) c42]) 25), (b4, .cells (BV nonce) 81), (b3, .cells (#[Ptr t 0]) 30)] ++ (X42 ++ [])) w := St.call_out2 (A := [(b12, .cells (BV (deB key nonce bs k)) 22), (b11, .cells (BV (blk bs k)) 22), (lp, .loop { r with state := .busy }), (D, .deferred (some [])), (b23, .cells (#[(.slice a n cap)]) 25), (b9, .cells (#[.func (.func 87) #[] #[Ptr b6 0, Ptr b7 0]]) 137), (b8, .cells (BV (crO key nonce (k + 1))) 22), (b7, .cells (BV (deC key nonce bs k)) 22), (b6, .cells (#[.slice s.1 (k * 16) s.2.1]) 25), (b4, .cells (BV nonce) 81), (b3, .cells (#[Ptr t 0]) 30)]) (A2 := [(b12, .cells (BV (deB key nonce bs k)) 22), (b11, .cells (BV (blk bs k)) 22), (lp, .loop { r with state := .busy }), (D, .deferred (some [])), (b23, .cells (#[(.slice a n cap)]) 25), (b9, .cells (#[.func (.func 87) #[] #[Ptr b6 0, Ptr b7 0]]) 137), (b8, .cells (BV (crO key nonce (k + 1))) 22), (b7, .cells (BV (xorV (deC key nonce bs k) (deB key nonce bs k))) 22), (b6, .cells (#[.slice a42 ((k * 16) + 16) c42]) 25), (b4, .cells (BV nonce) 81), (b3, .cells (#[Ptr t 0]) 30)]) (i := 8) (j := 7) hS rfl rfl rfl rfl rfl hS1
        refine ⟨fun h => (by cases h), ?_⟩
        refine de (by kernel_rfl) ?_
        refine q_block_norm ?_
        refine end_q 2 hS rfl hr hp (fun w hS => ?_)
        have e16 : k * 16 + 16 = (k + 1) * 16 := by omega
        rw [e16] at hS hO42
        exact ⟨rfl, _, ⟨(a42, c42, X42), hO42, rfl⟩, hS.tl.tl⟩
    · skip
      refine ala zr22 hS rfl rfl ?_
      intro b12 w hb12 hS
      refine ⟨fun _ => hS.tl, ?_⟩
      refine dl 2 rfl (by kernel_rfl) ?_
      refine cv cf82 hS rfl rfl rfl rfl rfl (sp_table_Table_Cipher (t) (c) (key) _ (hT.st hS)) ?_
      intro w hS
      refine ⟨fun _ => hS.tl, ?_⟩
      refine dl 5 rfl (by kernel_rfl) ?_
      refine cv cf81 hS rfl rfl rfl rfl rfl (sp_block_Xor ((blk bs k)) ((crO key nonce (k + 1))) _) ?_
      intro w hS
      refine ⟨fun _ => hS.tl, ?_⟩
      refine dl 6 rfl (by kernel_rfl) ?_
      refine cv cf88 hS rfl rfl rfl rfl rfl (sp_fast_Cipher_Decrypt (c) (_) (key) ((xorV (blk bs k) (crO key nonce (k + 1)))) _ (hS.old hC List.not_mem_nil)) ?_
      intro w hS
      refine ⟨fun _ => hS.tl, ?_⟩
      refine dl 7 rfl (by kernel_rfl) ?_
      refine cv (v := .agg (BV (deB key nonce bs k))) cf81 hS rfl rfl rfl rfl rfl (sp_block_Xor ((crO key nonce (k + 1))) ((dec key (xorV (blk bs k) (crO key nonce (k + 1))))) _) ?_
      intro w hS
      refine ⟨fun _ => hS.tl, ?_⟩
      refine dl 9 rfl (by kernel_rfl) ?_
      refine sa 0 ag22 hS rfl rfl rfl (BV_one _) rfl (BV_size _) (BV_size _) ?_
      intro w hS
      refine ⟨fun h => (by cases h), ?_⟩
      refine de (by kernel_rfl) ?_
      refine wqi_then ?_
      refine wci_draw mo (by kernel_rfl) 3 (fun w => St w0 [] ([(b12, .cells (BV (deB key nonce bs k)) 22), (b11, .cells (BV (blk bs k)) 22), (lp, .loop { r with state := .busy }), (D, .deferred (some [])), (b23, .cells (#[(.slice a n cap)]) 25), (b9, .cells (#[.func (.func 87) #[] #[Ptr b6 0, Ptr b7 0]]) 137), (b8, .cells (BV (crO key nonce (k + 1))) 22), (b7, .cells (BV (deC key nonce bs k)) 22), (b6, .cells (#[.slice s.1 (k * 16) s.2.1]) 25), (b4, .cells (BV nonce) 81), (b3, .cells (#[Ptr t 0]) 30)] ++ (s.2.2 ++ [])) w) ?_
      have hS := hS.drew
      refine dq 0 rfl (by kernel_rfl) (by kernel_rfl) (by kernel_rfl) rfl rfl (fun w hS => lo 5 sc137 hS rfl rfl rfl rfl rfl ⟨rfl, rfl⟩) hS ?_
      refine dq 1 rfl (by kernel_rfl) (by kernel_rfl) (by kernel_rfl) rfl rfl (fun w hS => a_all Tryz.underlying22 ⟨_, sz5⟩ rfl rfl rfl ⟨rfl, rfl⟩) hS ?_
      refine dq 2 rfl (by kernel_rfl) (by kernel_rfl) (by kernel_rfl) rfl rfl (fun w hS => la 0 ag22 hS rfl rfl rfl rfl (BV_size _) ⟨rfl, rfl⟩) hS ?_
      refine dl 3 rfl (by kernel_rfl) ?_
      refine cl cf87 rfl rfl rfl rfl rfl (sp_open_Decrypt_1 (some ⟨b12, 0, none⟩) 16 16 ((deB key nonce bs k).toList) (deB key nonce bs k) (deC key nonce bs k) _ _ _ _ s.1 (k * 16) s.2.1 (deT key nonce bs k) s.2.2 _ Vector.length_toList (by omega) (Cel.bv (hS.get 0 rfl)) (hS.get 8 rfl) (hS.get 7 rfl) hO (fun p hp => (hS.own p (by simp [hp])).2) (St.nd2 (A := [(b12, .cells (BV (deB key nonce bs k)) 22), (b11, .cells (BV (blk bs k)) 22), (lp, .loop { r with state := .busy }), (D, .deferred (some [])), (b23, .cells (#[(.slice a n cap)]) 25), (b9, .cells (#[.func (.func 87) #[] #[Ptr b6 0, Ptr b7 0]]) 137), (b8, .cells (BV (crO key nonce (k + 1))) 22), (b7, .cells (BV (deC key nonce bs k)) 22), (b6, .cells (#[.slice s.1 (k * 16) s.2.1]) 25), (b4, .cells (BV nonce) 81), (b3, .cells (#[Ptr t 0]) 30)]) (R := []) (i := 8) (j := 7) hS rfl rfl)) ?_
      rintro _ w ⟨a42, c42, X42, ⟨v42, rfl⟩, hO42, hS1⟩
      refine ⟨_, rfl, ?_⟩
      have hS : St w0 [] ([(b12, .cells (BV (deB key nonce bs k)) 22), (b11, .cells (BV (blk bs k)) 22), (lp, .loop { r with state := .busy }), (D, .deferred (some [])), (b23, .cells (#[(.slice a n cap)]) 25), (b9, .cells (#[.func (.func 87) #[] #[Ptr b6 0, Ptr b7 0]]) 137), (b8, .cells (BV (crO key nonce (k + 1))) 22), (b7, .cells (BV (xorV (deC key nonce bs k) (deB key nonce bs k))) 22), (b6, .cells (#[.slice a42 ((k * 16) + 16) c42]) 25), (b4, .cells (BV nonce) 81), (b3, .cells (#[Ptr t 0]) 30)] ++ (X42 ++ [])) w := St.call_out2 (A := [(b12, .cells (BV (deB key nonce bs k)) 22), (b11, .cells (BV (blk bs k)) 22), (lp, .loop { r with state := .busy }), (D, .deferred (some [])), (b23, .cells (#[(.slice a n cap)]) 25), (b9, .cells (#[.func (.func 87) #[] #[Ptr b6 0, Ptr b7 0]]) 137), (b8, .cells (BV (crO key nonce (k + 1))) 22), (b7, .cells (BV (deC key nonce bs k)) 22), (b6, .cells (#[.slice s.1 (k * 16) s.2.1]) 25), (b4, .cells (BV nonce) 81), (b3, .cells (#[Ptr t 0]) 30)]) (A2 := [(b12, .cells (BV (deB key nonce bs k)) 22), (b11, .cells (BV (blk bs k)) 22), (lp, .loop { r with state := .busy }), (D, .deferred (some [])), (b23, .cells (#[(.slice a n cap)]) 25), (b9, .cells (#[.func (.func 87) #[] #[Ptr b6 0, Ptr b7 0]]) 137), (b8, .cells (BV (crO key nonce (k + 1))) 22), (b7, .cells (BV (xorV (deC key nonce bs k) (deB key nonce bs k))) 22), (b6, .cells (#[.slice a42 ((k * 16) + 16) c42]) 25), (b4, .cells (BV nonce) 81), (b3, .cells (#[Ptr t 0]) 30)]) (i := 8) (j := 7) hS rfl rfl rfl rfl rfl hS1
      refine ⟨fun h => (by cases h), ?_⟩
      refine de (by kernel_rfl) ?_
      refine q_block_norm ?_
      refine end_q 2 hS rfl hr hp (fun w hS => ?_)
      have e16 : k * 16 + 16 = (k + 1) * 16 := by omega
      rw [e16] at hS hO42
      exact ⟨rfl, _, ⟨(a42, c42, X42), hO42, rfl⟩, hS.tl.tl⟩
  · rintro D _ w ⟨s, hO, rfl⟩ hS
    have hS : St w0 [] ([(D, .deferred (some [])), (b23, .cells (#[(.slice a n cap)]) 25), (b9, .cells (#[.func (.func 87) #[] #[Ptr b6 0, Ptr b7 0]]) 137), (b8, .cells (BV (crO key nonce (n / 16))) 22), (b7, .cells (BV (deC key nonce bs (n / 16))) 22), (b6, .cells (#[.slice s.1 ((n / 16) * 16) s.2.1]) 25), (b4, .cells (BV nonce) 81), (b3, .cells (#[Ptr t 0]) 30)] ++ (s.2.2 ++ [])) w := hS
    refine q_block_norm ?_
    refine wq_then ?_
    refine rg ?_
    refine mv rfl rfl rfl ?_
    refine lo 5 sc25 hS rfl rfl rfl rfl rfl ?_
    refine lens Tryz.underlying25 rfl rfl rfl ?_
    refine s_l ((n / 16) * 16) Tryz.underlying25 sz5 rfl rfl rfl rfl (by omega) (by omega) ?_
    refine asg rfl rfl rfl ?_
    refine wq_then ?_
    refine wc_seq ?_
    refine rg ?_
    refine mv rfl rfl rfl ?_
    refine lens Tryz.underlying25 rfl rfl rfl ?_
    refine eqi rfl rfl rfl rfl ?_
    refine wq_then ?_
    refine wc_if rfl (fun hc1 => ?_) (fun hc1 => ?_)
    · skip
      try simp only [SB] at hc1
      have hz : n / 16 * 16 = n := by omega
      refine rd mo 5 (fun w => St w0 [] ([(D, .deferred (some [])), (b23, .cells (#[(.slice a n cap)]) 25), (b9, .cells (#[.func (.func 87) #[] #[Ptr b6 0, Ptr b7 0]]) 137), (b8, .cells (BV (crO key nonce (n / 16))) 22), (b7, .cells (BV (deC key nonce bs (n / 16))) 22), (b6, .cells (#[.slice s.1 ((n / 16) * 16) s.2.1]) 25), (b4, .cells (BV nonce) 81), (b3, .cells (#[Ptr t 0]) 30)] ++ (s.2.2 ++ [])) w) ?_
      have hS := hS.drew
      refine dq 0 rfl (by kernel_rfl) (by kernel_rfl) (by kernel_rfl) rfl rfl (fun w hS => lo 5 sc25 hS rfl rfl rfl rfl rfl ⟨rfl, rfl⟩) hS ?_
      refine dq 1 rfl (by kernel_rfl) (by kernel_rfl) (by kernel_rfl) rfl rfl (fun w hS => la 4 ag22 hS rfl rfl rfl rfl (BV_size _) ⟨rfl, rfl⟩) hS ?_
      refine dq 2 rfl (by kernel_rfl) (by kernel_rfl) (by kernel_rfl) rfl rfl (fun w hS => la 3 ag22 hS rfl rfl rfl rfl (BV_size _) ⟨rfl, rfl⟩) hS ?_
      refine dl 3 rfl (by kernel_rfl) ?_
      refine st 5 sz25 hS rfl rfl rfl rfl rfl rfl Nat.zero_lt_one rfl ?_
      intro w hS
      refine ⟨fun _ => hS, ?_⟩
      refine dl 4 rfl (by kernel_rfl) ?_
      refine sa 4 ag22 hS rfl rfl rfl (BV_one _) rfl (BV_size _) (BV_size _) ?_
      intro w hS
      refine ⟨fun _ => hS, ?_⟩
      refine dl 5 rfl (by kernel_rfl) ?_
      refine sa 3 ag22 hS rfl rfl rfl (BV_one _) rfl (BV_size _) (BV_size _) ?_
      intro w hS
      refine ⟨fun h => (by cases h), ?_⟩
      refine de (by kernel_rfl) ?_
      refine wq_then ?_
      refine wc_ret ?_
      refine q_then_ret ?_
      refine finM3 (v := .slice s.1 ((n / 16) * 16) s.2.1) (u := .agg (BV (deC key nonce bs (n / 16)))) (x := .agg (BV (crO key nonce (n / 16)))) 0 hS rfl rfl rfl (fun w hS => ⟨_, rfl, lv_c sc25 (hS.get 5 rfl) rfl⟩) (fun w hS => ⟨_, rfl, lv_a ag22 (hS.get 4 rfl) (BV_size _)⟩) (fun w hS => ⟨_, rfl, lv_a ag22 (hS.get 3 rfl) (BV_size _)⟩) (fun w hS => ?_)
      exact ⟨_, _, rfl, ⟨_, _, dec_z1 hn hz, dec_z2 hn hz hO⟩, hS.sublist (.cons _ (.cons _ (.cons _ (.cons _ (.cons _ (.cons _ (.cons _ (.cons _ (List.sublist_append_left s.2.2 [])))))))))⟩
    · skip
      try simp only [SB] at hc1
      have hz : ¬ n / 16 * 16 = n := by omega
      refine wc_skip ?_
      refine wq_then ?_
      refine rd mo 4 (fun w => St w0 [] ([(D, .deferred (some [])), (b23, .cells (#[(.slice a n cap)]) 25), (b9, .cells (#[.func (.func 87) #[] #[Ptr b6 0, Ptr b7 0]]) 137), (b8, .cells (BV (crO key nonce (n / 16))) 22), (b7, .cells (BV (deC key nonce bs (n / 16))) 22), (b6, .cells (#[.slice s.1 ((n / 16) * 16) s.2.1]) 25), (b4, .cells (BV nonce) 81), (b3, .cells (#[Ptr t 0]) 30)] ++ (s.2.2 ++ [])) w) ?_
      have hS := hS.drew
      refine dq 0 rfl (by kernel_rfl) (by kernel_rfl) (by kernel_rfl) rfl rfl (fun w hS => la 3 ag22 hS rfl rfl rfl rfl (BV_size _) ⟨rfl, rfl⟩) hS ?_
      refine dq 1 rfl (by kernel_rfl) (by kernel_rfl) (by kernel_rfl) rfl rfl (fun w hS => lo 7 sc30 hS rfl rfl rfl rfl rfl ⟨rfl, rfl⟩) hS ?_
      refine dl 2 rfl (by kernel_rfl) ?_
      refine cv cf83 hS rfl rfl rfl rfl rfl (sp_table_Table_Star (t) (c) (key) _ (hT.st hS)) ?_
      intro w hS
      refine ⟨fun _ => hS, ?_⟩
      refine dl 3 rfl (by kernel_rfl) ?_
      refine cv cf81 hS rfl rfl rfl rfl rfl (sp_block_Xor ((crO key nonce (n / 16))) ((star key)) _) ?_
      intro w hS
      refine ⟨fun _ => hS, ?_⟩
      refine dl 4 rfl (by kernel_rfl) ?_
      refine sa 3 ag22 hS rfl rfl rfl (BV_one _) rfl (BV_size _) (BV_size _) ?_
      intro w hS
      refine ⟨fun h => (by cases h), ?_⟩
      refine de (by kernel_rfl) ?_
      refine wq_then ?_
      refine rd mo 5 (fun w => St w0 [] ([(D, .deferred (some [])), (b23, .cells (#[(.slice a n cap)]) 25), (b9, .cells (#[.func (.func 87) #[] #[Ptr b6 0, Ptr b7 0]]) 137), (b8, .cells (BV (xorV (crO key nonce (n / 16)) (star key))) 22), (b7, .cells (BV (deC key nonce bs (n / 16))) 22), (b6, .cells (#[.slice s.1 ((n / 16) * 16) s.2.1]) 25), (b4, .cells (BV nonce) 81), (b3, .cells (#[Ptr t 0]) 30)] ++ (s.2.2 ++ [])) w) ?_
      have hS := hS.drew
      refine dq 0 rfl (by kernel_rfl) (by kernel_rfl) (by kernel_rfl) rfl rfl (fun w hS => lo 7 sc30 hS rfl rfl rfl rfl rfl ⟨rfl, rfl⟩) hS ?_
      refine dq 2 rfl (by kernel_rfl) (by kernel_rfl) (by kernel_rfl) rfl rfl (fun w hS => la 3 ag22 hS rfl rfl rfl rfl (BV_size _) ⟨rfl, rfl⟩) hS ?_
      refine dl2 1 4 rfl rfl (by kernel_rfl) ?_ ?_
      · skip
        refine cv cf82 hS rfl rfl rfl rfl rfl (sp_table_Table_Cipher (t) (c) (key) _ (hT.st hS)) ?_
        intro w hS
        refine ⟨fun _ => hS, ?_⟩
        refine dl2 3 4 rfl rfl (by kernel_rfl) ?_ ?_
        · skip
          refine cv cf21 hS rfl rfl rfl rfl rfl (sp_fast_Cipher_Encrypt (c) (_) (key) ((xorV (crO key nonce (n / 16)) (star key))) _ (hS.old hC List.not_mem_nil)) ?_
          intro w hS
          refine ⟨fun _ => hS, ?_⟩
          refine dl 4 rfl (by kernel_rfl) ?_
          refine ala zr22 hS rfl rfl ?_
          intro b14 w hb14 hS
          refine ⟨fun _ => hS.tl, ?_⟩
          refine dl 5 rfl (by kernel_rfl) ?_
          refine sa 0 ag22 hS rfl rfl rfl (BV_one _) rfl (BV_size _) (BV_size _) ?_
          intro w hS
          refine ⟨fun h => (by cases h), ?_⟩
          refine de (by kernel_rfl) ?_
          refine wq_then ?_
          refine rg ?_
          refine mv rfl rfl rfl ?_
          refine a_all Tryz.underlying22 ⟨_, sz5⟩ rfl rfl rfl ?_
          refine cs cf89 hS rfl rfl rfl rfl rfl (sp_bits_Xor ((sla a ((n / 16) * 16) cap)) ((n - ((n / 16) * 16))) ((cap - ((n / 16) * 16))) (((bs).drop ((n / 16) * 16))) ((some ⟨b14, 0, none⟩)) (16) (16) (((enc key (xorV (crO key nonce (n / 16)) (star key))).toList)) _ (by first | rfl | omega | (simp; omega) | (simp; done)) (by omega) ((hc.st hS).drop8 (lo := (n / 16) * 16) (cap := cap) (by first | omega | (simp; omega) | simp)) Vector.length_toList (by omega) (Cel.bv (hS.get 0 rfl))) ?_
          rintro _ _ w ⟨q63, rfl, rfl⟩ hS
          refine asg rfl rfl rfl ?_
          refine wq_then ?_
          refine rg ?_
          refine mv rfl rfl rfl ?_
          refine cv cf84 hS rfl rfl rfl rfl rfl (sp_block_Pad ((some ⟨q63, 0, none⟩)) ((min (n - ((n / 16) * 16)) 16)) ((min (n - ((n / 16) * 16)) 16)) ((xorb ((bs).drop ((n / 16) * 16)) ((enc key (xorV (crO key nonce (n / 16)) (star key))).toList))) _ (by rw [xorb_len]; (try simp) <;> omega) (by omega) (Cel.lb (l := xorb ((bs).drop ((n / 16) * 16)) ((enc key (xorV (crO key nonce (n / 16)) (star key))).toList)) (hS.get 0 rfl)) (by omega)) ?_
          intro w hS
          refine mv rfl rfl rfl ?_
          refine ext rfl rfl rfl rfl ?_
          refine ext rfl rfl rfl rfl ?_
          refine ala zr22 hS rfl rfl ?_
          intro b16 w hb16 hS
          refine sa 0 ag22 hS rfl rfl rfl (BV_one _) rfl (BV_size _) (BV_size _) ?_
          intro w hS
          refine asg rfl rfl rfl ?_
          refine wq_then ?_
          refine rg ?_
          refine lo 5 sc137 hS rfl rfl rfl rfl rfl ?_
          refine mv rfl rfl rfl ?_
          refine la 0 ag22 hS rfl rfl rfl rfl (BV_size _) ?_
          refine cl cf87 rfl rfl rfl rfl rfl (sp_open_Decrypt_1 (some ⟨q63, 0, none⟩) (min (n - ((n / 16) * 16)) 16) (min (n - ((n / 16) * 16)) 16) (xorb ((bs).drop ((n / 16) * 16)) ((enc key (xorV (crO key nonce (n / 16)) (star key))).toList)) (padV (xorb ((bs).drop ((n / 16) * 16)) ((enc key (xorV (crO key nonce (n / 16)) (star key))).toList))) (deC key nonce bs (n / 16)) _ _ _ _ s.1 ((n / 16) * 16) s.2.1 (deT key nonce bs (n / 16)) s.2.2 _ (by rw [xorb_len]; (try simp) <;> omega) (by omega) (Cel.lb (l := xorb ((bs).drop ((n / 16) * 16)) ((enc key (xorV (crO key nonce (n / 16)) (star key))).toList)) (hS.get 1 rfl)) (hS.get 8 rfl) (hS.get 7 rfl) hO (fun p hp => (hS.own p (by simp [hp])).2) (St.nd2 (A := [(b16, .cells (BV (padV (xorb ((bs).drop ((n / 16) * 16)) ((enc key (xorV (crO key nonce (n / 16)) (star key))).toList)))) 22), (q63, .cells (LB (xorb ((bs).drop ((n / 16) * 16)) ((enc key (xorV (crO key nonce (n / 16)) (star key))).toList))) 5), (b14, .cells (BV (enc key (xorV (crO key nonce (n / 16)) (star key)))) 22), (D, .deferred (some [])), (b23, .cells (#[(.slice a n cap)]) 25), (b9, .cells (#[.func (.func 87) #[] #[Ptr b6 0, Ptr b7 0]]) 137), (b8, .cells (BV (xorV (crO key nonce (n / 16)) (star key))) 22), (b7, .cells (BV (deC key nonce bs (n / 16))) 22), (b6, .cells (#[.slice s.1 ((n / 16) * 16) s.2.1]) 25), (b4, .cells (BV nonce) 81), (b3, .cells (#[Ptr t 0]) 30)]) (R := []) (i := 8) (j := 7) hS rfl rfl)) ?_
          rintro _ w ⟨a72, c72, X72, ⟨v72, rfl⟩, hO72, hS1⟩
          refine ⟨_, rfl, ?_⟩
          have hS : St w0 [] ([(b16, .cells (BV (padV (xorb ((bs).drop ((n / 16) * 16)) ((enc key (xorV (crO key nonce (n / 16)) (star key))).toList)))) 22), (q63, .cells (LB (xorb ((bs).drop ((n / 16) * 16)) ((enc key (xorV (crO key nonce (n / 16)) (star key))).toList))) 5), (b14, .cells (BV (enc key (xorV (crO key nonce (n / 16)) (star key)))) 22), (D, .deferred (some [])), (b23, .cells (#[(.slice a n cap)]) 25), (b9, .cells (#[.func (.func 87) #[] #[Ptr b6 0, Ptr b7 0]]) 137), (b8, .cells (BV (xorV (crO key nonce (n / 16)) (star key))) 22), (b7, .cells (BV (xorV (deC key nonce bs (n / 16)) (padV (xorb ((bs).drop ((n / 16) * 16)) ((enc key (xorV (crO key nonce (n / 16)) (star key))).toList))))) 22), (b6, .cells (#[.slice a72 (((n / 16) * 16) + (min (n - ((n / 16) * 16)) 16)) c72]) 25), (b4, .cells (BV nonce) 81), (b3, .cells (#[Ptr t 0]) 30)] ++ (X72 ++ [])) w := St.call_out2 (A := [(b16, .cells (BV (padV (xorb ((bs).drop ((n / 16) * 16)) ((enc key (xorV (crO key nonce (n / 16)) (star key))).toList)))) 22), (q63, .cells (LB (xorb ((bs).drop ((n / 16) * 16)) ((enc key (xorV (crO key nonce (n / 16)) (star key))).toList))) 5), (b14, .cells (BV (enc key (xorV (crO key nonce (n / 16)) (star key)))) 22), (D, .deferred (some [])), (b23, .cells (#[(.slice a n cap)]) 25), (b9, .cells (#[.func (.func 87) #[] #[Ptr b6 0, Ptr b7 0]]) 137), (b8, .cells (BV (xorV (crO key nonce (n / 16)) (star key))) 22), (b7, .cells (BV (deC key nonce bs (n / 16))) 22), (b6, .cells (#[.slice s.1 ((n / 16) * 16) s.2.1]) 25), (b4, .cells (BV nonce) 81), (b3, .cells (#[Ptr t 0]) 30)]) (A2 := [(b16, .cells (BV (padV (xorb ((bs).drop ((n / 16) * 16)) ((enc key (xorV (crO key nonce (n / 16)) (star key))).toList)))) 22), (q63, .cells (LB (xorb ((bs).drop ((n / 16) * 16)) ((enc key (xorV (crO key nonce (n / 16)) (star key))).toList))) 5), (b14, .cells (BV (enc key (xorV (crO key nonce (n / 16)) (star key)))) 22), (D, .deferred (some [])), (b23, .cells (#[(.slice a n cap)]) 25), (b9, .cells (#[.func (.func 87) #[] #[Ptr b6 0, Ptr b7 0]]) 137), (b8, .cells (BV (xorV (crO key nonce (n / 16)) (star key))) 22), (b7, .cells (BV (xorV (deC key nonce bs (n / 16)) (padV (xorb ((bs).drop ((n / 16) * 16)) ((enc key (xorV (crO key nonce (n / 16)) (star key))).toList))))) 22), (b6, .cells (#[.slice a72 (((n / 16) * 16) + (min (n - ((n / 16) * 16)) 16)) c72]) 25), (b4, .cells (BV nonce) 81), (b3, .cells (#[Ptr t 0]) 30)]) (i := 8) (j := 7) hS rfl rfl rfl rfl rfl hS1
          refine wq_then ?_
          refine rd mo 5 (fun w => St w0 [] ([(b16, .cells (BV (padV (xorb ((bs).drop ((n / 16) * 16)) ((enc key (xorV (crO key nonce (n / 16)) (star key))).toList)))) 22), (q63, .cells (LB (xorb ((bs).drop ((n / 16) * 16)) ((enc key (xorV (crO key nonce (n / 16)) (star key))).toList))) 5), (b14, .cells (BV (enc key (xorV (crO key nonce (n / 16)) (star key)))) 22), (D, .deferred (some [])), (b23, .cells (#[(.slice a n cap)]) 25), (b9, .cells (#[.func (.func 87) #[] #[Ptr b6 0, Ptr b7 0]]) 137), (b8, .cells (BV (xorV (crO key nonce (n / 16)) (star key))) 22), (b7, .cells (BV (xorV (deC key nonce bs (n / 16)) (padV (xorb ((bs).drop ((n / 16) * 16)) ((enc key (xorV (crO key nonce (n / 16)) (star key))).toList))))) 22), (b6, .cells (#[.slice a72 (((n / 16) * 16) + (min (n - ((n / 16) * 16)) 16)) c72]) 25), (b4, .cells (BV nonce) 81), (b3, .cells (#[Ptr t 0]) 30)] ++ (X72 ++ [])) w) ?_
          have hS := hS.drew
          refine dq 0 rfl (by kernel_rfl) (by kernel_rfl) (by kernel_rfl) rfl rfl (fun w hS => lo 8 sc25 hS rfl rfl rfl rfl rfl ⟨rfl, rfl⟩) hS ?_
          refine dq 1 rfl (by kernel_rfl) (by kernel_rfl) (by kernel_rfl) rfl rfl (fun w hS => la 7 ag22 hS rfl rfl rfl rfl (BV_size _) ⟨rfl, rfl⟩) hS ?_
          refine dq 2 rfl (by kernel_rfl) (by kernel_rfl) (by kernel_rfl) rfl rfl (fun w hS => la 6 ag22 hS rfl rfl rfl rfl (BV_size _) ⟨rfl, rfl⟩) hS ?_
          refine dl 3 rfl (by kernel_rfl) ?_
          refine st 8 sz25 hS rfl rfl rfl rfl rfl rfl Nat.zero_lt_one rfl ?_
          intro w hS
          refine ⟨fun _ => hS, ?_⟩
          refine dl 4 rfl (by kernel_rfl) ?_
          refine sa 7 ag22 hS rfl rfl rfl (BV_one _) rfl (BV_size _) (BV_size _) ?_
          intro w hS
          refine ⟨fun _ => hS, ?_⟩
          refine dl 5 rfl (by kernel_rfl) ?_
          refine sa 6 ag22 hS rfl rfl rfl (BV_one _) rfl (BV_size _) (BV_size _) ?_
          intro w hS
          refine ⟨fun h => (by cases h), ?_⟩
          refine de (by kernel_rfl) ?_
          refine wq_then ?_
          refine wc_ret ?_
          refine finM3 (v := .slice a72 (((n / 16) * 16) + (min (n - ((n / 16) * 16)) 16)) c72) (u := .agg (BV (xorV (deC key nonce bs (n / 16)) (padV (xorb ((bs).drop ((n / 16) * 16)) ((enc key (xorV (crO key nonce (n / 16)) (star key))).toList)))))) (x := .agg (BV (xorV (crO key nonce (n / 16)) (star key)))) 3 hS rfl rfl rfl (fun w hS => ⟨_, rfl, lv_c sc25 (hS.get 8 rfl) rfl⟩) (fun w hS => ⟨_, rfl, lv_a ag22 (hS.get 7 rfl) (BV_size _)⟩) (fun w hS => ⟨_, rfl, lv_a ag22 (hS.get 6 rfl) (BV_size _)⟩) (fun w hS => ?_)
          exact ⟨_, _, rfl, ⟨_, _, dec_r1 hn hz _ (by omega), dec_r2 hn hz _ (by omega) hO72⟩, hS.sublist (.cons _ (.cons _ (.cons _ (.cons _ (.cons _ (.cons _ (.cons _ (.cons _ (.cons _ (.cons _ (.cons _ (List.sublist_append_left X72 []))))))))))))⟩
        · skip
          refine ala zr22 hS rfl rfl ?_
          intro b14 w hb14 hS
          refine ⟨fun _ => hS.tl, ?_⟩
          refine dl 3 rfl (by kernel_rfl) ?_
          refine cv cf21 hS rfl rfl rfl rfl rfl (sp_fast_Cipher_Encrypt (c) (_) (key) ((xorV (crO key nonce (n / 16)) (star key))) _ (hS.old hC List.not_mem_nil)) ?_
          intro w hS
          refine ⟨fun _ => hS.tl, ?_⟩
          refine dl 5 rfl (by kernel_rfl) ?_
          refine sa 0 ag22 hS rfl rfl rfl (BV_one _) rfl (BV_size _) (BV_size _) ?_
          intro w hS
          refine ⟨fun h => (by cases h), ?_⟩
          refine de (by kernel_rfl) ?_
          refine wq_then ?_
          refine rg ?_
          refine mv rfl rfl rfl ?_
          refine a_all Tryz.underlying22 ⟨_, sz5⟩ rfl rfl rfl ?_
          refine cs cf89 hS rfl rfl rfl rfl rfl (sp_bits_Xor ((sla a ((n / 16) * 16) cap)) ((n - ((n / 16) * 16))) ((cap - ((n / 16) * 16))) (((bs).drop ((n / 16) * 16))) ((some ⟨b14, 0, none⟩)) (16) (16) (((enc key (xorV (crO key nonce (n / 16)) (star key))).toList)) _ (by first | rfl | omega | (simp; omega) | (simp; done)) (by omega) ((hc.st hS).drop8 (lo := (n / 16) * 16) (cap := cap) (by first | omega | (simp; omega) | simp)) Vector.length_toList (by omega) (Cel.bv (hS.get 0 rfl))) ?_
          rintro _ _ w ⟨q63, rfl, rfl⟩ hS
          refine asg rfl rfl rfl ?_
          refine wq_then ?_
          refine rg ?_
          refine mv rfl rfl rfl ?_
          refine cv cf84 hS rfl rfl rfl rfl rfl (sp_block_Pad ((some ⟨q63, 0, none⟩)) ((min (n - ((n / 16) * 16)) 16)) ((min (n - ((n / 16) * 16)) 16)) ((xorb ((bs).drop ((n / 16) * 16)) ((enc key (xorV (crO key nonce (n / 16)) (star key))).toList))) _ (by rw [xorb_len]; (try simp) <;> omega) (by omega) (Cel.lb (l := xorb ((bs).drop ((n / 16) * 16)) ((enc key (xorV (crO key nonce (n / 16)) (star key))).toList)) (hS.get 0 rfl)) (by omega)) ?_
          intro w hS
          refine mv rfl rfl rfl ?_
          refine ext rfl rfl rfl rfl ?_
          refine ext rfl rfl rfl rfl ?_
          refine ala zr22 hS rfl rfl ?_
          intro b16 w hb16 hS
          refine sa 0 ag22 hS rfl rfl rfl (BV_one _) rfl (BV_size _) (BV_size _) ?_
          intro w hS
          refine asg rfl rfl rfl ?_
          refine wq_then ?_
          refine rg ?_
          refine lo 5 sc137 hS rfl rfl rfl rfl rfl ?_
          refine mv rfl rfl rfl ?_
          refine la 0 ag22 hS rfl rfl rfl rfl (BV_size _) ?_
          refine cl cf87 rfl rfl rfl rfl rfl (sp_open_Decrypt_1 (some ⟨q63, 0, none⟩) (min (n - ((n / 16) * 16)) 16) (min (n - ((n / 16) * 16)) 16) (xorb ((bs).drop ((n / 16) * 16)) ((enc key (xorV (crO key nonce (n / 16)) (star key))).toList)) (padV (xorb ((bs).drop ((n / 16) * 16)) ((enc key (xorV (crO key nonce (n / 16)) (star key))).toList))) (deC key nonce bs (n / 16)) _ _ _ _ s.1 ((n / 16) * 16) s.2.1 (deT key nonce bs (n / 16)) s.2.2 _ (by rw [xorb_len]; (try simp) <;> omega) (by omega) (Cel.lb (l := xorb ((bs).drop ((n / 16) * 16)) ((enc key (xorV (crO key nonce (n / 16)) (star key))).toList)) (hS.get 1 rfl)) (hS.get 8 rfl) (hS.get 7 rfl) hO (fun p hp => (hS.own p (by simp [hp])).2) (St.nd2 (A := [(b16, .cells (BV (padV (xorb ((bs).drop ((n / 16) * 16)) ((enc key (xorV (crO key nonce (n / 16)) (star key))).toList)))) 22), (q63, .cells (LB (xorb ((bs).drop ((n / 16) * 16)) ((enc key (xorV (crO key nonce (n / 16)) (star key))).toList))) 5), (b14, .cells (BV (enc key (xorV (crO key nonce (n / 16)) (star key)))) 22), (D, .deferred (some [])), (b23, .cells (#[(.slice a n cap)]) 25), (b9, .cells (#[.func (.func 87) #[] #[Ptr b6 0, Ptr b7 0]]) 137), (b8, .cells (BV (xorV (crO key nonce (n / 16)) (star key))) 22), (b7, .cells (BV (deC key nonce bs (n / 16))) 22), (b6, .cells (#[.slice s.1 ((n / 16) * 16) s.2.1]) 25), (b4, .cells (BV nonce) 81), (b3, .cells (#[Ptr t 0]) 30)]) (R := []) (i := 8) (j := 7) hS rfl rfl)) ?_
          rintro _ w ⟨a72, c72, X72, ⟨v72, rfl⟩, hO72, hS1⟩
          refine ⟨_, rfl, ?_⟩
          have hS : St w0 [] ([(b16, .cells (BV (padV (xorb ((bs).drop ((n / 16) * 16)) ((enc key (xorV (crO key nonce (n / 16)) (star key))).toList)))) 22), (q63, .cells (LB (xorb ((bs).drop ((n / 16) * 16)) ((enc key (xorV (crO key nonce (n / 16)) (star key))).toList))) 5), (b14, .cells (BV (enc key (xorV (crO key nonce (n / 16)) (star key)))) 22), (D, .deferred (some [])), (b23, .cells (#[(.slice a n cap)]) 25), (b9, .cells (#[.func (.func 87) #[] #[Ptr b6 0, Ptr b7 0]]) 137), (b8, .cells (BV (xorV (crO key nonce (n / 16)) (star key))) 22), (b7, .cells (BV (xorV (deC key nonce bs (n / 16)) (padV (xorb ((bs).drop ((n / 16) * 16)) ((enc key (xorV (crO key nonce (n / 16)) (star key))).toList))))) 22), (b6, .cells (#[.slice a72 (((n / 16) * 16) + (min (n - ((n / 16) * 16)) 16)) c72]) 25), (b4, .cells (BV nonce) 81), (b3, .cells (#[Ptr t 0]) 30)] ++ (X72 ++ [])) w := St.call_out2 (A := [(b16, .cells (BV (padV (xorb ((bs).drop ((n / 16) * 16)) ((enc key (xorV (crO key nonce (n / 16)) (star key))).toList)))) 22), (q63, .cells (LB (xorb ((bs).drop ((n / 16) * 16)) ((enc key (xorV (crO key nonce (n / 16)) (star key))).toList))) 5), (b14, .cells (BV (enc key (xorV (crO key nonce (n / 16)) (star key)))) 22), (D, .deferred (some [])), (b23, .cells (#[(.slice a n cap)]) 25), (b9, .cells (#[.func (.func 87) #[] #[Ptr b6 0, Ptr b7 0]]) 137), (b8, .cells (BV (xorV (crO key nonce (n / 16)) (star key))) 22), (b7, .cells (BV (deC key nonce bs (n / 16))) 22), (b6, .cells (#[.slice s.1 ((n / 16) * 16) s.2.1]) 25), (b4, .cells (BV nonce) 81), (b3, .cells (#[Ptr t 0]) 30)]) (A2 := [(b16, .cells (BV (padV (xorb ((bs).drop ((n / 16) * 16)) ((enc key (xorV (crO key nonce (n / 16)) (star key))).toList)))) 22), (q63, .cells (LB (xorb ((bs).drop ((n / 16) * 16)) ((enc key (xorV (crO key nonce (n / 16)) (star key))).toList))) 5), (b14, .cells (BV (enc key (xorV (crO key nonce (n / 16)) (star key)))) 22), (D, .deferred (some [])), (b23, .cells (#[(.slice a n cap)]) 25), (b9, .cells (#[.func (.func 87) #[] #[Ptr b6 0, Ptr b7 0]]) 137), (b8, .cells (BV (xorV (crO key nonce (n / 16)) (star key))) 22), (b7, .cells (BV (xorV (deC key nonce bs (n / 16)) (padV (xorb ((bs).drop ((n / 16) * 16)) ((enc key (xorV (crO key nonce (n / 16)) (star key))).toList))))) 22), (b6, .cells (#[.slice a72 (((n / 16) * 16) + (min (n - ((n / 16) * 16)) 16)) c72]) 25), (b4, .cells (BV nonce) 81), (b3, .cells (#[Ptr t 0]) 30)]) (i := 8) (j := 7) hS rfl rfl rfl rfl rfl hS1
          refine wq_then ?_
          refine rd mo 5 (fun w => St w0 [] ([(b16, .cells (BV (padV (xorb ((bs).drop ((n / 16) * 16)) ((enc key (xorV (crO key nonce (n / 16)) (star key))).toList)))) 22), (q63, .cells (LB (xorb ((bs).drop ((n / 16) * 16)) ((enc key (xorV (crO key nonce (n / 16)) (star key))).toList))) 5), (b14, .cells (BV (enc key (xorV (crO key nonce (n / 16)) (star key)))) 22), (D, .deferred (some [])), (b23, .cells (#[(.slice a n cap)]) 25), (b9, .cells (#[.func (.func 87) #[] #[Ptr b6 0, Ptr b7 0]]) 137), (b8, .cells (BV (xorV (crO key nonce (n / 16)) (star key))) 22), (b7, .cells (BV (xorV (deC key nonce bs (n / 16)) (padV (xorb ((bs).drop ((n / 16) * 16)) ((enc key (xorV (crO key nonce (n / 16)) (star key))).toList))))) 22), (b6, .cells (#[.slice a72 (((n / 16) * 16) + (min (n - ((n / 16) * 16)) 16)) c72]) 25), (b4, .cells (BV nonce) 81), (b3, .cells (#[Ptr t 0]) 30)] ++ (X72 ++ [])) w) ?_
          have hS := hS.drew
          refine dq 0 rfl (by kernel_rfl) (by kernel_rfl) (by kernel_rfl) rfl rfl (fun w hS => lo 8 sc25 hS rfl rfl rfl rfl rfl ⟨rfl, rfl⟩) hS ?_
          refine dq 1 rfl (by kernel_rfl) (by kernel_rfl) (by kernel_rfl) rfl rfl (fun w hS => la 7 ag22 hS rfl rfl rfl rfl (BV_size _) ⟨rfl, rfl⟩) hS ?_
          refine dq 2 rfl (by kernel_rfl) (by kernel_rfl) (by kernel_rfl) rfl rfl (fun w hS => la 6 ag22 hS rfl rfl rfl rfl (BV_size _) ⟨rfl, rfl⟩) hS ?_
          refine dl 3 rfl (by kernel_rfl) ?_
          refine st 8 sz25 hS rfl rfl rfl rfl rfl rfl Nat.zero_lt_one rfl ?_
          intro w hS
          refine ⟨fun _ => hS, ?_⟩
          refine dl 4 rfl (by kernel_rfl) ?_
          refine sa 7 ag22 hS rfl rfl rfl (BV_one _) rfl (BV_size _) (BV_size _) ?_
          intro w hS
          refine ⟨fun _ => hS, ?_⟩
          refine dl 5 rfl (by kernel_rfl) ?_
          refine sa 6 ag22 hS rfl rfl rfl (BV_one _) rfl (BV_size _) (BV_size _) ?_
          intro w hS
          refine ⟨fun h => (by cases h), ?_⟩
          refine de (by kernel_rfl) ?_
          refine wq_then ?_
          refine wc_ret ?_
          refine finM3 (v := .slice a72 (((n / 16) * 16) + (min (n - ((n / 16) * 16)) 16)) c72) (u := .agg (BV (xorV (deC key nonce bs (n / 16)) (padV (xorb ((bs).drop ((n / 16) * 16)) ((enc key (xorV (crO key nonce (n / 16)) (star key))).toList)))))) (x := .agg (BV (xorV (crO key nonce (n / 16)) (star key)))) 3 hS rfl rfl rfl (fun w hS => ⟨_, rfl, lv_c sc25 (hS.get 8 rfl) rfl⟩) (fun w hS => ⟨_, rfl, lv_a ag22 (hS.get 7 rfl) (BV_size _)⟩) (fun w hS => ⟨_, rfl, lv_a ag22 (hS.get 6 rfl) (BV_size _)⟩) (fun w hS => ?_)
          exact ⟨_, _, rfl, ⟨_, _, dec_r1 hn hz _ (by omega), dec_r2 hn hz _ (by omega) hO72⟩, hS.sublist (.cons _ (.cons _ (.cons _ (.cons _ (.cons _ (.cons _ (.cons _ (.cons _ (.cons _ (.cons _ (.cons _ (List.sublist_append_left X72 []))))))))))))⟩
      · skip
        refine ala zr22 hS rfl rfl ?_
        intro b14 w hb14 hS
        refine ⟨fun _ => hS.tl, ?_⟩
        refine dl 1 rfl (by kernel_rfl) ?_
        refine cv cf82 hS rfl rfl rfl rfl rfl (sp_table_Table_Cipher (t) (c) (key) _ (hT.st hS)) ?_
        intro w hS
        refine ⟨fun _ => hS.tl, ?_⟩
        refine dl 3 rfl (by kernel_rfl) ?_
        refine cv cf21 hS rfl rfl rfl rfl rfl (sp_fast_Cipher_Encrypt (c) (_) (key) ((xorV (crO key nonce (n / 16)) (star key))) _ (hS.old hC List.not_mem_nil)) ?_
        intro w hS
        refine ⟨fun _ => hS.tl, ?_⟩
        refine dl 5 rfl (by kernel_rfl) ?_
        refine sa 0 ag22 hS rfl rfl rfl (BV_one _) rfl (BV_size _) (BV_size _) ?_
        intro w hS
        refine ⟨fun h => (by cases h), ?_⟩
        refine de (by kernel_rfl) ?_
        refine wq_then ?_
        refine rg ?_
        refine mv rfl rfl rfl ?_
        refine a_all Tryz.underlying22 ⟨_, sz5⟩ rfl rfl rfl ?_
        refine cs cf89 hS rfl rfl rfl rfl rfl (sp_bits_Xor ((sla a ((n / 16) * 16) cap)) ((n - ((n / 16) * 16))) ((cap - ((n / 16) * 16))) (((bs).drop ((n / 16) * 16))) ((some ⟨b14, 0, none⟩)) (16) (16) (((enc key (xorV (crO key nonce (n / 16)) (star key))).toList)) _ (by first | rfl | omega | (simp; omega) | (simp; done)) (by omega) ((hc.st hS).drop8 (lo := (n / 16) * 16) (cap := cap) (by first | omega | (simp; omega) | simp)) Vector.length_toList (by omega) (Cel.bv (hS.get 0 rfl))) ?_
        rintro _ _ w ⟨q63, rfl, rfl⟩ hS
        refine asg rfl rfl rfl ?_
        refine wq_then ?_
        refine rg ?_
        refine mv rfl rfl rfl ?_
        refine cv cf84 hS rfl rfl rfl rfl rfl (sp_block_Pad ((some ⟨q63, 0, none⟩)) ((min (n - ((n / 16) * 16)) 16)) ((min (n - ((n / 16) * 16)) 16)) ((xorb ((bs).drop ((n / 16) * 16)) ((enc key (xorV (crO key nonce (n / 16)) (star key))).toList))) _ (by rw [xorb_len]; (try simp) <;> omega) (by omega) (Cel.lb (l := xorb ((bs).drop ((n / 16) * 16)) ((enc key (xorV (crO key nonce (n / 16)) (star key))).toList)) (hS.get 0 rfl)) (by omega)) ?_
        intro w hS
        refine mv rfl rfl rfl ?_
        refine ext rfl rfl rfl rfl ?_
        refine ext rfl rfl rfl rfl ?_
        refine ala zr22 hS rfl rfl ?_
        intro b16 w hb16 hS
        refine sa 0 ag22 hS rfl rfl rfl (BV_one _) rfl (BV_size _) (BV_size _) ?_
        intro w hS
        refine asg rfl rfl rfl ?_
        refine wq_then ?_
        refine rg ?_
        refine lo 5 sc137 hS rfl rfl rfl rfl rfl ?_
        refine mv rfl rfl rfl ?_
        refine la 0 ag22 hS rfl rfl rfl rfl (BV_size _) ?_
        refine cl cf87 rfl rfl rfl rfl rfl (sp_open_Decrypt_1 (some ⟨q63, 0, none⟩) (min (n - ((n / 16) * 16)) 16) (min (n - ((n / 16) * 16)) 16) (xorb ((bs).drop ((n / 16) * 16)) ((enc key (xorV (crO key nonce (n / 16)) (star key))).toList)) (padV (xorb ((bs).drop ((n / 16) * 16)) ((enc key (xorV (crO key nonce (n / 16)) (star key))).toList))) (deC key nonce bs (n / 16)) _ _ _ _ s.1 ((n / 16) * 16) s.2.1 (deT key nonce bs (n / 16)) s.2.2 _ (by rw [xorb_len]; (try simp) <;> omega) (by omega) (Cel.lb (l := xorb ((bs).drop ((n / 16) * 16)) ((enc key (xorV (crO key nonce (n / 16)) (star key))).toList)) (hS.get 1 rfl)) (hS.get 8 rfl) (hS.get 7 rfl) hO (fun p hp => (hS.own p (by simp [hp])).2) (St.nd2 (A := [(b16, .cells (BV (padV (xorb ((bs).drop ((n / 16) * 16)) ((enc key (xorV (crO key nonce (n / 16)) (star key))).toList)))) 22), (q63, .cells (LB (xorb ((bs).drop ((n / 16) * 16)) ((enc key (xorV (crO key nonce (n / 16)) (star key))).toList))) 5), (b14, .cells (BV (enc key (xorV (crO key nonce (n / 16)) (star key)))) 22), (D, .deferred (some [])), (b23, .cells (#[(.slice a n cap)]) 25), (b9, .cells (#[.func (.func 87) #[] #[Ptr b6 0, Ptr b7 0]]) 137), (b8, .cells (BV (xorV (crO key nonce (n / 16)) (star key))) 22), (b7, .cells (BV (deC key nonce bs (n / 16))) 22), (b6, .cells (#[.slice s.1 ((n / 16) * 16) s.2.1]) 25), (b4, .cells (BV nonce) 81), (b3, .cells (#[Ptr t 0]) 30)]) (R := []) (i := 8) (j := 7) hS rfl rfl)) ?_
        rintro _ w ⟨a72, c72, X72, ⟨v72, rfl⟩, hO72, hS1⟩
        refine ⟨_, rfl, ?_⟩
        have hS : St w0 [] ([(b16, .cells (BV (padV (xorb ((bs).drop ((n / 16) * 16)) ((enc key (xorV (crO key nonce (n / 16)) (star key))).toList)))) 22), (q63, .cells (LB (xorb ((bs).drop ((n / 16) * 16)) ((enc key (xorV (crO key nonce (n / 16)) (star key))).toList))) 5), (b14, .cells (BV (enc key (xorV (crO key nonce (n / 16)) (star key)))) 22), (D, .deferred (some [])), (b23, .cells (#[(.slice a n cap)]) 25), (b9, .cells (#[.func (.func 87) #[] #[Ptr b6 0, Ptr b7 0]]) 137), (b8, .cells (BV (xorV (crO key nonce (n / 16)) (star key))) 22), (b7, .cells (BV (xorV (deC key nonce bs (n / 16)) (padV (xorb ((bs).drop ((n / 16) * 16)) ((enc key (xorV (crO key nonce (n / 16)) (star key))).toList))))) 22), (b6, .cells (#[.slice a72 (((n / 16) * 16) + (min (n - ((n / 16) * 16)) 16)) c72]) 25), (b4, .cells (BV nonce) 81), (b3, .cells (#[Ptr t 0]) 30)] ++ (X72 ++ [])) w := St.call_out2 (A := [(b16, .cells (BV (padV (xorb ((bs).drop ((n / 16) * 16)) ((enc key (xorV (crO key nonce (n / 16)) (star key))).toList)))) 22), (q63, .cells (LB (xorb ((bs).drop ((n / 16) * 16)) ((enc key (xorV (crO key nonce (n / 16)) (star key))).toList))) 5), (b14, .cells (BV (enc key (xorV (crO key nonce (n / 16)) (star key)))) 22), (D, .deferred (some [])), (b23, .cells (#[(.slice a n cap)]) 25), (b9, .cells (#[.func (.func 87) #[] #[Ptr b6 0, Ptr b7 0]]) 137), (b8, .cells (BV (xorV (crO key nonce (n / 16)) (star key))) 22), (b7, .cells (BV (deC key nonce bs (n / 16))) 22), (b6, .cells (#[.slice s.1 ((n / 16) * 16) s.2.1]) 25), (b4, .cells (BV nonce) 81), (b3, .cells (#[Ptr t 0]) 30)]) (A2 := [(b16, .cells (BV (padV (xorb ((bs).drop ((n / 16) * 16)) ((enc key (xorV (crO key nonce (n / 16)) (star key))).toList)))) 22), (q63, .cells (LB (xorb ((bs).drop ((n / 16) * 16)) ((enc key (xorV (crO key nonce (n / 16)) (star key))).toList))) 5), (b14, .cells (BV (enc key (xorV (crO key nonce (n / 16)) (star key)))) 22), (D, .deferred (some [])), (b23, .cells (#[(.slice a n cap)]) 25), (b9, .cells (#[.func (.func 87) #[] #[Ptr b6 0, Ptr b7 0]]) 137), (b8, .cells (BV (xorV (crO key nonce (n / 16)) (star key))) 22), (b7, .cells (BV (xorV (deC key nonce bs (n / 16)) (padV (xorb ((bs).drop ((n / 16) * 16)) ((enc key (xorV (crO key nonce (n / 16)) (star key))).toList))))) 22), (b6, .cells (#[.slice a72 (((n / 16) * 16) + (min (n - ((n / 16) * 16)) 16)) c72]) 25), (b4, .cells (BV nonce) 81), (b3, .cells (#[Ptr t 0]) 30)]) (i := 8) (j := 7) hS rfl rfl rfl rfl rfl hS1
        refine wq_then ?_
        refine rd mo 5 (fun w => St w0 [] ([(b16, .cells (BV (padV (xorb ((bs).drop ((n / 16) * 16)) ((enc key (xorV (crO key nonce (n / 16)) (star key))).toList)))) 22), (q63, .cells (LB (xorb ((bs).drop ((n / 16) * 16)) ((enc key (xorV (crO key nonce (n / 16)) (star key))).toList))) 5), (b14, .cells (BV (enc key (xorV (crO key nonce (n / 16)) (star key)))) 22), (D, .deferred (some [])), (b23, .cells (#[(.slice a n cap)]) 25), (b9, .cells (#[.func (.func 87) #[] #[Ptr b6 0, Ptr b7 0]]) 137), (b8, .cells (BV (xorV (crO key nonce (n / 16)) (star key))) 22), (b7, .cells (BV (xorV (deC key nonce bs (n / 16)) (padV (xorb ((bs).drop ((n / 16) * 16)) ((enc key (xorV (crO key nonce (n / 16)) (star key))).toList))))) 22), (b6, .cells (#[.slice a72 (((n / 16) * 16) + (min (n - ((n / 16) * 16)) 16)) c72]) 25), (b4, .cells (BV nonce) 81), (b3, .cells (#[Ptr t 0]) 30)] ++ (X72 ++ [])) w) ?_
        have hS := hS.drew
        refine dq 0 rfl (by kernel_rfl) (by kernel_rfl) (by kernel_rfl) rfl rfl (fun w hS => lo 8 sc25 hS rfl rfl rfl rfl rfl ⟨rfl, rfl⟩) hS ?_
        refine dq 1 rfl (by kernel_rfl) (by kernel_rfl) (by kernel_rfl) rfl rfl (fun w hS => la 7 ag22 hS rfl rfl rfl rfl (BV_size _) ⟨rfl, rfl⟩) hS ?_
        refine dq 2 rfl (by kernel_rfl) (by kernel_rfl) (by kernel_rfl) rfl rfl (fun w hS => la 6 ag22 hS rfl rfl rfl rfl (BV_size _) ⟨rfl, rfl⟩) hS ?_
        refine dl 3 rfl (by kernel_rfl) ?_
        refine st 8 sz25 hS rfl rfl rfl rfl rfl rfl Nat.zero_lt_one rfl ?_
        intro w hS
        refine ⟨fun _ => hS, ?_⟩
        refine dl 4 rfl (by kernel_rfl) ?_
        refine sa 7 ag22 hS rfl rfl rfl (BV_one _) rfl (BV_size _) (BV_size _) ?_
        intro w hS
        refine ⟨fun _ => hS, ?_⟩
        refine dl 5 rfl (by kernel_rfl) ?_
        refine sa 6 ag22 hS rfl rfl rfl (BV_one _) rfl (BV_size _) (BV_size _) ?_
        intro w hS
        refine ⟨fun h => (by cases h), ?_⟩
        refine de (by kernel_rfl) ?_
        refine wq_then ?_
        refine wc_ret ?_
        refine finM3 (v := .slice a72 (((n / 16) * 16) + (min (n - ((n / 16) * 16)) 16)) c72) (u := .agg (BV (xorV (deC key nonce bs (n / 16)) (padV (xorb ((bs).drop ((n / 16) * 16)) ((enc key (xorV (crO key nonce (n / 16)) (star key))).toList)))))) (x := .agg (BV (xorV (crO key nonce (n / 16)) (star key)))) 3 hS rfl rfl rfl (fun w hS => ⟨_, rfl, lv_c sc25 (hS.get 8 rfl) rfl⟩) (fun w hS => ⟨_, rfl, lv_a ag22 (hS.get 7 rfl) (BV_size _)⟩) (fun w hS => ⟨_, rfl, lv_a ag22 (hS.get 6 rfl) (BV_size _)⟩) (fun w hS => ?_)
        exact ⟨_, _, rfl, ⟨_, _, dec_r1 hn hz _ (by omega), dec_r2 hn hz _ (by omega) hO72⟩, hS.sublist (.cons _ (.cons _ (.cons _ (.cons _ (.cons _ (.cons _ (.cons _ (.cons _ (.cons _ (.cons _ (.cons _ (List.sublist_append_left X72 []))))))))))))⟩
end Go.Proofs.XZ

/- walks -/
namespace Go.Proofs.XZ
open Go Go.X Go.Proofs
set_option maxRecDepth 100000 in
theorem sp_open_Open (t c : Nat) (key : V8 16) (nonce : V8 12) (a : Option Addr) (n cap : Nat) (bs : List UInt8) (a2 : Option Addr) (n2 cap2 : Nat) (bs2 : List UInt8) (w0 : World) (hT : TabAt w0 t c key) (hn : bs.length = n) (hN : n ≤ 1000000) (hc : Cel w0 a (c8 bs)) (hcap : n ≤ cap) (hn2 : bs2.length = n2) (hN2 : n2 ≤ 1000000) (he2 : Cel w0 a2 (c8 bs2)) (hcap2 : n2 ≤ cap2) (hG : Gl 0 w0) : Calls Tryz.prog 34 #[Ptr t 0, .agg (BV nonce), .slice a2 n2 cap2, .slice a n cap] w0 (RetS w0 (fun v X => ∃ a' n' c', v = .tuple #[.slice a' n' c', errV 40 (opnE key nonce bs2 bs)] ∧ Own 1 a' n' c' (c8 (if opnE key nonce bs2 bs = 0 then opnT key nonce bs else [])) X)) := by
  refine enter (args := [Ptr t 0, .agg (BV nonce), .slice a2 n2 cap2, .slice a n cap]) Tryz.func34 rfl rfl ?_
  refine startw fun w hS => ?_
  obtain ⟨⟨T, hT1⟩, E, hC⟩ := id hT
  refine rg ?_
  refine bxa hS rfl rfl rfl ?_
  intro b5 w hb5 hS
  refine asg rfl rfl rfl ?_
  refine asg rfl rfl rfl ?_
  refine wq_then ?_
  refine rg ?_
  refine mv rfl rfl rfl ?_
  refine lens Tryz.underlying25 rfl rfl rfl ?_
  refine subi (by omega) (by omega) rfl rfl rfl rfl ?_
  refine asg rfl rfl rfl ?_
  refine wq_then ?_
  refine wc_seq ?_
  refine rg ?_
  refine mv rfl rfl rfl ?_
  refine lss rfl rfl rfl rfl ?_
  refine wq_then ?_
  refine wc_if rfl (fun hc1 => ?_) (fun hc1 => ?_)
  · skip
    try simp only [SB] at hc1
    refine rg ?_
    refine mki cc40 rfl rfl rfl ?_
    refine asg rfl rfl rfl ?_
    refine asg rfl rfl rfl ?_
    refine wq_then ?_
    refine wc_ret ?_
    refine q_then_ret ?_
    refine fin2 (v := (.slice none 0 0)) (u := (.iface 40 (I (1)))) rfl rfl rfl ?_
    have he : opnE key nonce bs2 bs = 1 := opnE_s hn (by omega)
    exact ⟨_, [], rfl, ⟨none, 0, 0, opn_e (by decide) he, opn_o (by decide) he⟩, hS.drop⟩
  · skip
    try simp only [SB] at hc1
    refine wc_skip ?_
    refine wq_then ?_
    refine rd mo 14 (fun w => St w0 [] [(b5, .cells (BV nonce) 81)] w) ?_
    have hS := hS.drew
    refine dq 0 rfl (by kernel_rfl) (by kernel_rfl) (by kernel_rfl) rfl rfl (fun w hS => mv rfl rfl rfl ⟨rfl, rfl⟩) hS ?_
    refine dq 1 rfl (by kernel_rfl) (by kernel_rfl) (by kernel_rfl) rfl rfl (fun w hS => la 0 ag81 hS rfl rfl rfl rfl (BV_size _) ⟨rfl, rfl⟩) hS ?_
    refine dq 2 rfl (by kernel_rfl) (by kernel_rfl) (by kernel_rfl) rfl rfl (fun w hS => mv rfl rfl rfl ⟨rfl, rfl⟩) hS ?_
    refine dq 3 rfl (by kernel_rfl) (by kernel_rfl) (by kernel_rfl) rfl rfl (fun w hS => mv rfl rfl rfl ⟨rfl, rfl⟩) hS ?_
    refine dq 4 rfl (by kernel_rfl) (by kernel_rfl) (by kernel_rfl) rfl rfl (fun w hS => s_h ((n - 16)) Tryz.underlying25 ⟨_, sz5⟩ rfl rfl rfl rfl (by omega) (by omega) ⟨rfl, rfl⟩) hS ?_
    refine dl3 5 10 11 rfl rfl rfl (by kernel_rfl) ?_ ?_ ?_
    · skip
      refine cs cf57 hS rfl rfl rfl rfl rfl (sp_open_Decrypt (t) (c) (key) (nonce) (a) ((n - 16)) (cap) (((bs).take (n - 16))) _ (hT.st hS) (by first | rfl | omega | (simp; omega) | (simp; done)) (by omega) ((hc.st hS).take8 (n - 16)) (by omega) (hG.st hS)) ?_
      rintro _ X27 w ⟨a27, c27, rfl, hO27⟩ hS
      have hS := St.tailin (X := X27) hS [(b5, .cells (BV nonce) 81)] [] rfl
      refine ⟨fun _ => (St.untail (A := [(b5, .cells (BV nonce) 81)]) (X := X27) (R := []) hS), ?_⟩
      refine dq 6 rfl (by kernel_rfl) (by kernel_rfl) (by kernel_rfl) rfl rfl (fun w hS => mv rfl rfl rfl ⟨rfl, rfl⟩) (St.untail (A := [(b5, .cells (BV nonce) 81)]) (X := X27) (R := []) hS) ?_
      refine dq 7 rfl (by kernel_rfl) (by kernel_rfl) (by kernel_rfl) rfl rfl (fun w hS => ext rfl rfl rfl rfl ⟨rfl, rfl⟩) (St.untail (A := [(b5, .cells (BV nonce) 81)]) (X := X27) (R := []) hS) ?_
      refine dq 8 rfl (by kernel_rfl) (by kernel_rfl) (by kernel_rfl) rfl rfl (fun w hS => ext rfl rfl rfl rfl ⟨rfl, rfl⟩) (St.untail (A := [(b5, .cells (BV nonce) 81)]) (X := X27) (R := []) hS) ?_
      refine dq 9 rfl (by kernel_rfl) (by kernel_rfl) (by kernel_rfl) rfl rfl (fun w hS => ext rfl rfl rfl rfl ⟨rfl, rfl⟩) (St.untail (A := [(b5, .cells (BV nonce) 81)]) (X := X27) (R := []) hS) ?_
      refine dl2 10 11 rfl rfl (by kernel_rfl) ?_ ?_
      · skip
        refine ala zr22 hS rfl rfl ?_
        intro b12 w hb12 hS
        refine ⟨fun _ => (St.untail (A := [(b12, .cells (BV (Vector.replicate 16 0)) 22), (b5, .cells (BV nonce) 81)]) (X := X27) (R := []) hS).tl, ?_⟩
        refine dl 11 rfl (by kernel_rfl) ?_
        refine ala zr22 hS rfl rfl ?_
        intro b13 w hb13 hS
        refine ⟨fun _ => (St.untail (A := [(b13, .cells (BV (Vector.replicate 16 0)) 22), (b12, .cells (BV (Vector.replicate 16 0)) 22), (b5, .cells (BV nonce) 81)]) (X := X27) (R := []) hS).tl.tl, ?_⟩
        refine dq 12 rfl (by kernel_rfl) (by kernel_rfl) (by kernel_rfl) rfl rfl (fun w hS => asg rfl rfl rfl ⟨rfl, rfl⟩) (St.untail (A := [(b13, .cells (BV (Vector.replicate 16 0)) 22), (b12, .cells (BV (Vector.replicate 16 0)) 22), (b5, .cells (BV nonce) 81)]) (X := X27) (R := []) hS).tl.tl ?_
        refine dl 13 rfl (by kernel_rfl) ?_
        refine sa 1 ag22 hS rfl rfl rfl (BV_one _) rfl (BV_size _) (BV_size _) ?_
        intro w hS
        refine ⟨fun _ => (St.untail (A := [(b13, .cells (BV (Vector.replicate 16 0)) 22), (b12, .cells (BV (decC key nonce ((bs).take (n - 16)))) 22), (b5, .cells (BV nonce) 81)]) (X := X27) (R := []) hS).tl.tl, ?_⟩
        refine dl 14 rfl (by kernel_rfl) ?_
        refine sa 0 ag22 hS rfl rfl rfl (BV_one _) rfl (BV_size _) (BV_size _) ?_
        intro w hS
        refine ⟨fun h => (by cases h), ?_⟩
        refine de (by kernel_rfl) ?_
        refine wq_then ?_
        refine rg ?_
        refine mv rfl rfl rfl ?_
        refine la 1 ag22 hS rfl rfl rfl rfl (BV_size _) ?_
        refine la 0 ag22 hS rfl rfl rfl rfl (BV_size _) ?_
        refine mv rfl rfl rfl ?_
        refine cv cf56 hS rfl rfl rfl rfl rfl (sp_seal_Tag (t) (c) (key) ((decC key nonce ((bs).take (n - 16)))) ((cryO key nonce (n - 16))) (a2) (n2) (cap2) (bs2) _ (hT.st hS) (by first | rfl | omega | (simp; omega) | (simp; done)) (by omega) (he2.st hS) (by omega) (hG.st hS)) ?_
        intro w hS
        refine ala zr22 hS rfl rfl ?_
        intro b14 w hb14 hS
        refine sa 0 ag22 hS rfl rfl rfl (BV_one _) rfl (BV_size _) (BV_size _) ?_
        intro w hS
        refine wq_then ?_
        refine wc_seq ?_
        refine rd mo 6 (fun w => St w0 [] ([(b14, .cells (BV (tagV key (decC key nonce ((bs).take (n - 16))) (cryO key nonce (n - 16)) bs2)) 22), (b13, .cells (BV (cryO key nonce (n - 16))) 22), (b12, .cells (BV (decC key nonce ((bs).take (n - 16)))) 22), (b5, .cells (BV nonce) 81)] ++ (X27 ++ [])) w) ?_
        have hS := hS.drew
        refine dq 0 rfl (by kernel_rfl) (by kernel_rfl) (by kernel_rfl) rfl rfl (fun w hS => a_all Tryz.underlying22 ⟨_, sz5⟩ rfl rfl rfl ⟨rfl, rfl⟩) hS ?_
        refine dq 1 rfl (by kernel_rfl) (by kernel_rfl) (by kernel_rfl) rfl rfl (fun w hS => mv rfl rfl rfl ⟨rfl, rfl⟩) hS ?_
        refine dq 2 rfl (by kernel_rfl) (by kernel_rfl) (by kernel_rfl) rfl rfl (fun w hS => mv rfl rfl rfl ⟨rfl, rfl⟩) hS ?_
        refine dq 3 rfl (by kernel_rfl) (by kernel_rfl) (by kernel_rfl) rfl rfl (fun w hS => s_l ((n - 16)) Tryz.underlying25 sz5 rfl rfl rfl rfl (by omega) (by omega) ⟨rfl, rfl⟩) hS ?_
        refine dl 4 rfl (by kernel_rfl) ?_
        refine cv cf58 hS rfl rfl rfl rfl rfl (sp_bits_Equal ((some ⟨b14, 0, none⟩)) (16) (16) (((tagV key (decC key nonce ((bs).take (n - 16))) (cryO key nonce (n - 16)) bs2).toList)) ((sla a (n - 16) cap)) ((n - (n - 16))) ((cap - (n - 16))) (((bs).drop (n - 16))) _ Vector.length_toList (by omega) (Cel.bv (hS.get 0 rfl)) (by first | rfl | omega | (simp; omega) | (simp; done)) (by omega) ((hc.st hS).drop8 (lo := (n - 16)) (cap := cap) (by first | omega | (simp; omega) | simp))) ?_
        intro w hS
        refine ⟨fun _ => hS, ?_⟩
        refine dq 5 rfl (by kernel_rfl) (by kernel_rfl) (by kernel_rfl) rfl rfl (fun w hS => notb rfl rfl rfl ⟨rfl, rfl⟩) hS ?_
        refine de (by kernel_rfl) ?_
        refine wq_then ?_
        refine wc_if rfl (fun hc2 => ?_) (fun hc2 => ?_)
        · skip
          try simp only [SB] at hc2
          have he0 := hc2
          refine rg ?_
          refine mki cc40 rfl rfl rfl ?_
          refine asg rfl rfl rfl ?_
          refine asg rfl rfl rfl ?_
          refine wq_then ?_
          refine wc_ret ?_
          refine q_then_ret ?_
          refine fin2 (v := (.slice none 0 0)) (u := (.iface 40 (I (3)))) rfl rfl rfl ?_
          have he : opnE key nonce bs2 bs = 3 := opnE_f hn (by omega) he0
          exact ⟨_, [], rfl, ⟨none, 0, 0, opn_e (by decide) he, opn_o (by decide) he⟩, hS.drop⟩
        · skip
          try simp only [SB] at hc2
          have he0 := hc2
          refine wc_skip ?_
          refine wq_then ?_
          refine rg ?_
          refine mv rfl rfl rfl ?_
          refine asg rfl rfl rfl ?_
          refine asg rfl rfl rfl ?_
          refine wq_then ?_
          refine wc_ret ?_
          refine fin2 (v := .slice a27 (n - 16) c27) (u := .nilIface) rfl rfl rfl ?_
          have he : opnE key nonce bs2 bs = 0 := opnE_t hn (by omega) he0
          exact ⟨_, X27, rfl, ⟨_, _, _, opn_e0 he, opn_o0 hn he hO27⟩, hS.sublist (.cons _ (.cons _ (.cons _ (.cons _ (List.sublist_append_left X27 [])))))⟩
      · skip
        refine ala zr22 hS rfl rfl ?_
        intro b13 w hb13 hS
        refine ⟨fun _ => (St.untail (A := [(b13, .cells (BV (Vector.replicate 16 0)) 22), (b5, .cells (BV nonce) 81)]) (X := X27) (R := []) hS).tl, ?_⟩
        refine dl 10 rfl (by kernel_rfl) ?_
        refine ala zr22 hS rfl rfl ?_
        intro b12 w hb12 hS
        refine ⟨fun _ => (St.untail (A := [(b12, .cells (BV (Vector.replicate 16 0)) 22), (b13, .cells (BV (Vector.replicate 16 0)) 22), (b5, .cells (BV nonce) 81)]) (X := X27) (R := []) hS).tl.tl, ?_⟩
        refine dq 12 rfl (by kernel_rfl) (by kernel_rfl) (by kernel_rfl) rfl rfl (fun w hS => asg rfl rfl rfl ⟨rfl, rfl⟩) (St.untail (A := [(b12, .cells (BV (Vector.replicate 16 0)) 22), (b13, .cells (BV (Vector.replicate 16 0)) 22), (b5, .cells (BV nonce) 81)]) (X := X27) (R := []) hS).tl.tl ?_
        refine dl 13 rfl (by kernel_rfl) ?_
        refine sa 0 ag22 hS rfl rfl rfl (BV_one _) rfl (BV_size _) (BV_size _) ?_
        intro w hS
        refine ⟨fun _ => (St.untail (A := [(b12, .cells (BV (decC key nonce ((bs).take (n - 16)))) 22), (b13, .cells (BV (Vector.replicate 16 0)) 22), (b5, .cells (BV nonce) 81)]) (X := X27) (R := []) hS).tl.tl, ?_⟩
        refine dl 14 rfl (by kernel_rfl) ?_
        refine sa 1 ag22 hS rfl rfl rfl (BV_one _) rfl (BV_size _) (BV_size _) ?_
        intro w hS
        refine ⟨fun h => (by cases h), ?_⟩
        refine de (by kernel_rfl) ?_
        refine wq_then ?_
        refine rg ?_
        refine mv rfl rfl rfl ?_
        refine la 0 ag22 hS rfl rfl rfl rfl (BV_size _) ?_
        refine la 1 ag22 hS rfl rfl rfl rfl (BV_size _) ?_
        refine mv rfl rfl rfl ?_
        refine cv cf56 hS rfl rfl rfl rfl rfl (sp_seal_Tag (t) (c) (key) ((decC key nonce ((bs).take (n - 16)))) ((cryO key nonce (n - 16))) (a2) (n2) (cap2) (bs2) _ (hT.st hS) (by first | rfl | omega | (simp; omega) | (simp; done)) (by omega) (he2.st hS) (by omega) (hG.st hS)) ?_
        intro w hS
        refine ala zr22 hS rfl rfl ?_
        intro b14 w hb14 hS
        refine sa 0 ag22 hS rfl rfl rfl (BV_one _) rfl (BV_size _) (BV_size _) ?_
        intro w hS
        refine wq_then ?_
        refine wc_seq ?_
        refine rd mo 6 (fun w => St w0 [] ([(b14, .cells (BV (tagV key (decC key nonce ((bs).take (n - 16))) (cryO key nonce (n - 16)) bs2)) 22), (b12, .cells (BV (decC key nonce ((bs).take (n - 16)))) 22), (b13, .cells (BV (cryO key nonce (n - 16))) 22), (b5, .cells (BV nonce) 81)] ++ (X27 ++ [])) w) ?_
        have hS := hS.drew
        refine dq 0 rfl (by kernel_rfl) (by kernel_rfl) (by kernel_rfl) rfl rfl (fun w hS => a_all Tryz.underlying22 ⟨_, sz5⟩ rfl rfl rfl ⟨rfl, rfl⟩) hS ?_
        refine dq 1 rfl (by kernel_rfl) (by kernel_rfl) (by kernel_rfl) rfl rfl (fun w hS => mv rfl rfl rfl ⟨rfl, rfl⟩) hS ?_
        refine dq 2 rfl (by kernel_rfl) (by kernel_rfl) (by kernel_rfl) rfl rfl (fun w hS => mv rfl rfl rfl ⟨rfl, rfl⟩) hS ?_
        refine dq 3 rfl (by kernel_rfl) (by kernel_rfl) (by kernel_rfl) rfl rfl (fun w hS => s_l ((n - 16)) Tryz.underlying25 sz5 rfl rfl rfl rfl (by omega) (by omega) ⟨rfl, rfl⟩) hS ?_
        refine dl 4 rfl (by kernel_rfl) ?_
        refine cv cf58 hS rfl rfl rfl rfl rfl (sp_bits_Equal ((some ⟨b14, 0, none⟩)) (16) (16) (((tagV key (decC key nonce ((bs).take (n - 16))) (cryO key nonce (n - 16)) bs2).toList)) ((sla a (n - 16) cap)) ((n - (n - 16))) ((cap - (n - 16))) (((bs).drop (n - 16))) _ Vector.length_toList (by omega) (Cel.bv (hS.get 0 rfl)) (by first | rfl | omega | (simp; omega) | (simp; done)) (by omega) ((hc.st hS).drop8 (lo := (n - 16)) (cap := cap) (by first | omega | (simp; omega) | simp))) ?_
        intro w hS
        refine ⟨fun _ => hS, ?_⟩
        refine dq 5 rfl (by kernel_rfl) (by kernel_rfl) (by kernel_rfl) rfl rfl (fun w hS => notb rfl rfl rfl ⟨rfl, rfl⟩) hS ?_
        refine de (by kernel_rfl) ?_
        refine wq_then ?_
        refine wc_if rfl (fun hc3 => ?_) (fun hc3 => ?_)
        · skip
          try simp only [SB] at hc3
          have he0 := hc3
          refine rg ?_
          refine mki cc40 rfl rfl rfl ?_
          refine asg rfl rfl rfl ?_
          refine asg rfl rfl rfl ?_
          refine wq_then ?_
          refine wc_ret ?_
          refine q_then_ret ?_
          refine fin2 (v := (.slice none 0 0)) (u := (.iface 40 (I (3)))) rfl rfl rfl ?_
          have he : opnE key nonce bs2 bs = 3 := opnE_f hn (by omega) he0
          exact ⟨_, [], rfl, ⟨none, 0, 0, opn_e (by decide) he, opn_o (by decide) he⟩, hS.drop⟩
        · skip
          try simp only [SB] at hc3
          have he0 := hc3
          refine wc_skip ?_
          refine wq_then ?_
          refine rg ?_
          refine mv rfl rfl rfl ?_
          refine asg rfl rfl rfl ?_
          refine asg rfl rfl rfl ?_
          refine wq_then ?_
          refine wc_ret ?_
          refine fin2 (v := .slice a27 (n - 16) c27) (u := .nilIface) rfl rfl rfl ?_
          have he : opnE key nonce bs2 bs = 0 := opnE_t hn (by omega) he0
          exact ⟨_, X27, rfl, ⟨_, _, _, opn_e0 he, opn_o0 hn he hO27⟩, hS.sublist (.cons _ (.cons _ (.cons _ (.cons _ (List.sublist_append_left X27 [])))))⟩
    · skip
      refine ala zr22 hS rfl rfl ?_
      intro b12 w hb12 hS
      refine ⟨fun _ => hS.tl, ?_⟩
      refine dl2 5 11 rfl rfl (by kernel_rfl) ?_ ?_
      · skip
        refine cs cf57 hS rfl rfl rfl rfl rfl (sp_open_Decrypt (t) (c) (key) (nonce) (a) ((n - 16)) (cap) (((bs).take (n - 16))) _ (hT.st hS) (by first | rfl | omega | (simp; omega) | (simp; done)) (by omega) ((hc.st hS).take8 (n - 16)) (by omega) (hG.st hS)) ?_
        rintro _ X27 w ⟨a27, c27, rfl, hO27⟩ hS
        have hS := St.tailin (X := X27) hS [(b12, .cells (BV (Vector.replicate 16 0)) 22), (b5, .cells (BV nonce) 81)] [] rfl
        refine ⟨fun _ => (St.untail (A := [(b12, .cells (BV (Vector.replicate 16 0)) 22), (b5, .cells (BV nonce) 81)]) (X := X27) (R := []) hS).tl, ?_⟩
        refine dq 6 rfl (by kernel_rfl) (by kernel_rfl) (by kernel_rfl) rfl rfl (fun w hS => mv rfl rfl rfl ⟨rfl, rfl⟩) (St.untail (A := [(b12, .cells (BV (Vector.replicate 16 0)) 22), (b5, .cells (BV nonce) 81)]) (X := X27) (R := []) hS).tl ?_
        refine dq 7 rfl (by kernel_rfl) (by kernel_rfl) (by kernel_rfl) rfl rfl (fun w hS => ext rfl rfl rfl rfl ⟨rfl, rfl⟩) (St.untail (A := [(b12, .cells (BV (Vector.replicate 16 0)) 22), (b5, .cells (BV nonce) 81)]) (X := X27) (R := []) hS).tl ?_
        refine dq 8 rfl (by kernel_rfl) (by kernel_rfl) (by kernel_rfl) rfl rfl (fun w hS => ext rfl rfl rfl rfl ⟨rfl, rfl⟩) (St.untail (A := [(b12, .cells (BV (Vector.replicate 16 0)) 22), (b5, .cells (BV nonce) 81)]) (X := X27) (R := []) hS).tl ?_
        refine dq 9 rfl (by kernel_rfl) (by kernel_rfl) (by kernel_rfl) rfl rfl (fun w hS => ext rfl rfl rfl rfl ⟨rfl, rfl⟩) (St.untail (A := [(b12, .cells (BV (Vector.replicate 16 0)) 22), (b5, .cells (BV nonce) 81)]) (X := X27) (R := []) hS).tl ?_
        refine dl 11 rfl (by kernel_rfl) ?_
        refine ala zr22 hS rfl rfl ?_
        intro b13 w hb13 hS
        refine ⟨fun _ => (St.untail (A := [(b13, .cells (BV (Vector.replicate 16 0)) 22), (b12, .cells (BV (Vector.replicate 16 0)) 22), (b5, .cells (BV nonce) 81)]) (X := X27) (R := []) hS).tl.tl, ?_⟩
        refine dq 12 rfl (by kernel_rfl) (by kernel_rfl) (by kernel_rfl) rfl rfl (fun w hS => asg rfl rfl rfl ⟨rfl, rfl⟩) (St.untail (A := [(b13, .cells (BV (Vector.replicate 16 0)) 22), (b12, .cells (BV (Vector.replicate 16 0)) 22), (b5, .cells (BV nonce) 81)]) (X := X27) (R := []) hS).tl.tl ?_
        refine dl 13 rfl (by kernel_rfl) ?_
        refine sa 1 ag22 hS rfl rfl rfl (BV_one _) rfl (BV_size _) (BV_size _) ?_
        intro w hS
        refine ⟨fun _ => (St.untail (A := [(b13, .cells (BV (Vector.replicate 16 0)) 22), (b12, .cells (BV (decC key nonce ((bs).take (n - 16)))) 22), (b5, .cells (BV nonce) 81)]) (X := X27) (R := []) hS).tl.tl, ?_⟩
        refine dl 14 rfl (by kernel_rfl) ?_
        refine sa 0 ag22 hS rfl rfl rfl (BV_one _) rfl (BV_size _) (BV_size _) ?_
        intro w hS
        refine ⟨fun h => (by cases h), ?_⟩
        refine de (by kernel_rfl) ?_
        refine wq_then ?_
        refine rg ?_
        refine mv rfl rfl rfl ?_
        refine la 1 ag22 hS rfl rfl rfl rfl (BV_size _) ?_
        refine la 0 ag22 hS rfl rfl rfl rfl (BV_size _) ?_
        refine mv rfl rfl rfl ?_
        refine cv cf56 hS rfl rfl rfl rfl rfl (sp_seal_Tag (t) (c) (key) ((decC key nonce ((bs).take (n - 16)))) ((cryO key nonce (n - 16))) (a2) (n2) (cap2) (bs2) _ (hT.st hS) (by first | rfl | omega | (simp; omega) | (simp; done)) (by omega) (he2.st hS) (by omega) (hG.st hS)) ?_
        intro w hS
        refine ala zr22 hS rfl rfl ?_
        intro b14 w hb14 hS
        refine sa 0 ag22 hS rfl rfl rfl (BV_one _) rfl (BV_size _) (BV_size _) ?_
        intro w hS
        refine wq_then ?_
        refine wc_seq ?_
        refine rd mo 6 (fun w => St w0 [] ([(b14, .cells (BV (tagV key (decC key nonce ((bs).take (n - 16))) (cryO key nonce (n - 16)) bs2)) 22), (b13, .cells (BV (cryO key nonce (n - 16))) 22), (b12, .cells (BV (decC key nonce ((bs).take (n - 16)))) 22), (b5, .cells (BV nonce) 81)] ++ (X27 ++ [])) w) ?_
        have hS := hS.drew
        refine dq 0 rfl (by kernel_rfl) (by kernel_rfl) (by kernel_rfl) rfl rfl (fun w hS => a_all Tryz.underlying22 ⟨_, sz5⟩ rfl rfl rfl ⟨rfl, rfl⟩) hS ?_
        refine dq 1 rfl (by kernel_rfl) (by kernel_rfl) (by kernel_rfl) rfl rfl (fun w hS => mv rfl rfl rfl ⟨rfl, rfl⟩) hS ?_
        refine dq 2 rfl (by kernel_rfl) (by kernel_rfl) (by kernel_rfl) rfl rfl (fun w hS => mv rfl rfl rfl ⟨rfl, rfl⟩) hS ?_
        refine dq 3 rfl (by kernel_rfl) (by kernel_rfl) (by kernel_rfl) rfl rfl (fun w hS => s_l ((n - 16)) Tryz.underlying25 sz5 rfl rfl rfl rfl (by omega) (by omega) ⟨rfl, rfl⟩) hS ?_
        refine dl 4 rfl (by kernel_rfl) ?_
        refine cv cf58 hS rfl rfl rfl rfl rfl (sp_bits_Equal ((some ⟨b14, 0, none⟩)) (16) (16) (((tagV key (decC key nonce ((bs).take (n - 16))) (cryO key nonce (n - 16)) bs2).toList)) ((sla a (n - 16) cap)) ((n - (n - 16))) ((cap - (n - 16))) (((bs).drop (n - 16))) _ Vector.length_toList (by omega) (Cel.bv (hS.get 0 rfl)) (by first | rfl | omega | (simp; omega) | (simp; done)) (by omega) ((hc.st hS).drop8 (lo := (n - 16)) (cap := cap) (by first | omega | (simp; omega) | simp))) ?_
        intro w hS
        refine ⟨fun _ => hS, ?_⟩
        refine dq 5 rfl (by kernel_rfl) (by kernel_rfl) (by kernel_rfl) rfl rfl (fun w hS => notb rfl rfl rfl ⟨rfl, rfl⟩) hS ?_
        refine de (by kernel_rfl) ?_
        refine wq_then ?_
        refine wc_if rfl (fun hc4 => ?_) (fun hc4 => ?_)
        · skip
          try simp only [SB] at hc4
          have he0 := hc4
          refine rg ?_
          refine mki cc40 rfl rfl rfl ?_
          refine asg rfl rfl rfl ?_
          refine asg rfl rfl rfl ?_
          refine wq_then ?_
          refine wc_ret ?_
          refine q_then_ret ?_
          refine fin2 (v := (.slice none 0 0)) (u := (.iface 40 (I (3)))) rfl rfl rfl ?_
          have he : opnE key nonce bs2 bs = 3 := opnE_f hn (by omega) he0
          exact ⟨_, [], rfl, ⟨none, 0, 0, opn_e (by decide) he, opn_o (by decide) he⟩, hS.drop⟩
        · skip
          try simp only [SB] at hc4
          have he0 := hc4
          refine wc_skip ?_
          refine wq_then ?_
          refine rg ?_
          refine mv rfl rfl rfl ?_
          refine asg rfl rfl rfl ?_
          refine asg rfl rfl rfl ?_
          refine wq_then ?_
          refine wc_ret ?_
          refine fin2 (v := .slice a27 (n - 16) c27) (u := .nilIface) rfl rfl rfl ?_
          have he : opnE key nonce bs2 bs = 0 := opnE_t hn (by omega) he0
          exact ⟨_, X27, rfl, ⟨_, _, _, opn_e0 he, opn_o0 hn he hO27⟩, hS.sublist (.cons _ (.cons _ (.cons _ (.cons _ (List.sublist_append_left X27 [])))))⟩
      · skip
        refine ala zr22 hS rfl rfl ?_
        intro b13 w hb13 hS
        refine ⟨fun _ => hS.tl.tl, ?_⟩
        refine dl 5 rfl (by kernel_rfl) ?_
        refine cs cf57 hS rfl rfl rfl rfl rfl (sp_open_Decrypt (t) (c) (key) (nonce) (a) ((n - 16)) (cap) (((bs).take (n - 16))) _ (hT.st hS) (by first | rfl | omega | (simp; omega) | (simp; done)) (by omega) ((hc.st hS).take8 (n - 16)) (by omega) (hG.st hS)) ?_
        rintro _ X27 w ⟨a27, c27, rfl, hO27⟩ hS
        have hS := St.tailin (X := X27) hS [(b13, .cells (BV (Vector.replicate 16 0)) 22), (b12, .cells (BV (Vector.replicate 16 0)) 22), (b5, .cells (BV nonce) 81)] [] rfl
        refine ⟨fun _ => (St.untail (A := [(b13, .cells (BV (Vector.replicate 16 0)) 22), (b12, .cells (BV (Vector.replicate 16 0)) 22), (b5, .cells (BV nonce) 81)]) (X := X27) (R := []) hS).tl.tl, ?_⟩
        refine dq 6 rfl (by kernel_rfl) (by kernel_rfl) (by kernel_rfl) rfl rfl (fun w hS => mv rfl rfl rfl ⟨rfl, rfl⟩) (St.untail (A := [(b13, .cells (BV (Vector.replicate 16 0)) 22), (b12, .cells (BV (Vector.replicate 16 0)) 22), (b5, .cells (BV nonce) 81)]) (X := X27) (R := []) hS).tl.tl ?_
        refine dq 7 rfl (by kernel_rfl) (by kernel_rfl) (by kernel_rfl) rfl rfl (fun w hS => ext rfl rfl rfl rfl ⟨rfl, rfl⟩) (St.untail (A := [(b13, .cells (BV (Vector.replicate 16 0)) 22), (b12, .cells (BV (Vector.replicate 16 0)) 22), (b5, .cells (BV nonce) 81)]) (X := X27) (R := []) hS).tl.tl ?_
        refine dq 8 rfl (by kernel_rfl) (by kernel_rfl) (by kernel_rfl) rfl rfl (fun w hS => ext rfl rfl rfl rfl ⟨rfl, rfl⟩) (St.untail (A := [(b13, .cells (BV (Vector.replicate 16 0)) 22), (b12, .cells (BV (Vector.replicate 16 0)) 22), (b5, .cells (BV nonce) 81)]) (X := X27) (R := []) hS).tl.tl ?_
        refine dq 9 rfl (by kernel_rfl) (by kernel_rfl) (by kernel_rfl) rfl rfl (fun w hS => ext rfl rfl rfl rfl ⟨rfl, rfl⟩) (St.untail (A := [(b13, .cells (BV (Vector.replicate 16 0)) 22), (b12, .cells (BV (Vector.replicate 16 0)) 22), (b5, .cells (BV nonce) 81)]) (X := X27) (R := []) hS).tl.tl ?_
        refine dq 12 rfl (by kernel_rfl) (by kernel_rfl) (by kernel_rfl) rfl rfl (fun w hS => asg rfl rfl rfl ⟨rfl, rfl⟩) (St.untail (A := [(b13, .cells (BV (Vector.replicate 16 0)) 22), (b12, .cells (BV (Vector.replicate 16 0)) 22), (b5, .cells (BV nonce) 81)]) (X := X27) (R := []) hS).tl.tl ?_
        refine dl 13 rfl (by kernel_rfl) ?_
        refine sa 1 ag22 hS rfl rfl rfl (BV_one _) rfl (BV_size _) (BV_size _) ?_
        intro w hS
        refine ⟨fun _ => (St.untail (A := [(b13, .cells (BV (Vector.replicate 16 0)) 22), (b12, .cells (BV (decC key nonce ((bs).take (n - 16)))) 22), (b5, .cells (BV nonce) 81)]) (X := X27) (R := []) hS).tl.tl, ?_⟩
        refine dl 14 rfl (by kernel_rfl) ?_
        refine sa 0 ag22 hS rfl rfl rfl (BV_one _) rfl (BV_size _) (BV_size _) ?_
        intro w hS
        refine ⟨fun h => (by cases h), ?_⟩
        refine de (by kernel_rfl) ?_
        refine wq_then ?_
        refine rg ?_
        refine mv rfl rfl rfl ?_
        refine la 1 ag22 hS rfl rfl rfl rfl (BV_size _) ?_
        refine la 0 ag22 hS rfl rfl rfl rfl (BV_size _) ?_
        refine mv rfl rfl rfl ?_
        refine cv cf56 hS rfl rfl rfl rfl rfl (sp_seal_Tag (t) (c) (key) ((decC key nonce ((bs).take (n - 16)))) ((cryO key nonce (n - 16))) (a2) (n2) (cap2) (bs2) _ (hT.st hS) (by first | rfl | omega | (simp; omega) | (simp; done)) (by omega) (he2.st hS) (by omega) (hG.st hS)) ?_
        intro w hS
        refine ala zr22 hS rfl rfl ?_
        intro b14 w hb14 hS
        refine sa 0 ag22 hS rfl rfl rfl (BV_one _) rfl (BV_size _) (BV_size _) ?_
        intro w hS
        refine wq_then ?_
        refine wc_seq ?_
        refine rd mo 6 (fun w => St w0 [] ([(b14, .cells (BV (tagV key (decC key nonce ((bs).take (n - 16))) (cryO key nonce (n - 16)) bs2)) 22), (b13, .cells (BV (cryO key nonce (n - 16))) 22), (b12, .cells (BV (decC key nonce ((bs).take (n - 16)))) 22), (b5, .cells (BV nonce) 81)] ++ (X27 ++ [])) w) ?_
        have hS := hS.drew
        refine dq 0 rfl (by kernel_rfl) (by kernel_rfl) (by kernel_rfl) rfl rfl (fun w hS => a_all Tryz.underlying22 ⟨_, sz5⟩ rfl rfl rfl ⟨rfl, rfl⟩) hS ?_
        refine dq 1 rfl (by kernel_rfl) (by kernel_rfl) (by kernel_rfl) rfl rfl (fun w hS => mv rfl rfl rfl ⟨rfl, rfl⟩) hS ?_
        refine dq 2 rfl (by kernel_rfl) (by kernel_rfl) (by kernel_rfl) rfl rfl (fun w hS => mv rfl rfl rfl ⟨rfl, rfl⟩) hS ?_
        refine dq 3 rfl (by kernel_rfl) (by kernel_rfl) (by kernel_rfl) rfl rfl (fun w hS => s_l ((n - 16)) Tryz.underlying25 sz5 rfl rfl rfl rfl (by omega) (by omega) ⟨rfl, rfl⟩) hS ?_
        refine dl 4 rfl (by kernel_rfl) ?_
        refine cv cf58 hS rfl rfl rfl rfl rfl (sp_bits_Equal ((some ⟨b14, 0, none⟩)) (16) (16) (((tagV key (decC key nonce ((bs).take (n - 16))) (cryO key nonce (n - 16)) bs2).toList)) ((sla a (n - 16) cap)) ((n - (n - 16))) ((cap - (n - 16))) (((bs).drop (n - 16))) _ Vector.length_toList (by omega) (Cel.bv (hS.get 0 rfl)) (by first | rfl | omega | (simp; omega) | (simp; done)) (by omega) ((hc.st hS).drop8 (lo := (n - 16)) (cap := cap) (by first | omega | (simp; omega) | simp))) ?_
        intro w hS
        refine ⟨fun _ => hS, ?_⟩
        refine dq 5 rfl (by kernel_rfl) (by kernel_rfl) (by kernel_rfl) rfl rfl (fun w hS => notb rfl rfl rfl ⟨rfl, rfl⟩) hS ?_
        refine de (by kernel_rfl) ?_
        refine wq_then ?_
        refine wc_if rfl (fun hc5 => ?_) (fun hc5 => ?_)
        · skip
          try simp only [SB] at hc5
          have he0 := hc5
          refine rg ?_
          refine mki cc40 rfl rfl rfl ?_
          refine asg rfl rfl rfl ?_
          refine asg rfl rfl rfl ?_
          refine wq_then ?_
          refine wc_ret ?_
          refine q_then_ret ?_
          refine fin2 (v := (.slice none 0 0)) (u := (.iface 40 (I (3)))) rfl rfl rfl ?_
          have he : opnE key nonce bs2 bs = 3 := opnE_f hn (by omega) he0
          exact ⟨_, [], rfl, ⟨none, 0, 0, opn_e (by decide) he, opn_o (by decide) he⟩, hS.drop⟩
        · skip
          try simp only [SB] at hc5
          have he0 := hc5
          refine wc_skip ?_
          refine wq_then ?_
          refine rg ?_
          refine mv rfl rfl rfl ?_
          refine asg rfl rfl rfl ?_
          refine asg rfl rfl rfl ?_
          refine wq_then ?_
          refine wc_ret ?_
          refine fin2 (v := .slice a27 (n - 16) c27) (u := .nilIface) rfl rfl rfl ?_
          have he : opnE key nonce bs2 bs = 0 := opnE_t hn (by omega) he0
          exact ⟨_, X27, rfl, ⟨_, _, _, opn_e0 he, opn_o0 hn he hO27⟩, hS.sublist (.cons _ (.cons _ (.cons _ (.cons _ (List.sublist_append_left X27 [])))))⟩
    · skip
      refine ala zr22 hS rfl rfl ?_
      intro b13 w hb13 hS
      refine ⟨fun _ => hS.tl, ?_⟩
      refine dl2 5 10 rfl rfl (by kernel_rfl) ?_ ?_
      · skip
        refine cs cf57 hS rfl rfl rfl rfl rfl (sp_open_Decrypt (t) (c) (key) (nonce) (a) ((n - 16)) (cap) (((bs).take (n - 16))) _ (hT.st hS) (by first | rfl | omega | (simp; omega) | (simp; done)) (by omega) ((hc.st hS).take8 (n - 16)) (by omega) (hG.st hS)) ?_
        rintro _ X27 w ⟨a27, c27, rfl, hO27⟩ hS
        have hS := St.tailin (X := X27) hS [(b13, .cells (BV (Vector.replicate 16 0)) 22), (b5, .cells (BV nonce) 81)] [] rfl
        refine ⟨fun _ => (St.untail (A := [(b13, .cells (BV (Vector.replicate 16 0)) 22), (b5, .cells (BV nonce) 81)]) (X := X27) (R := []) hS).tl, ?_⟩
        refine dq 6 rfl (by kernel_rfl) (by kernel_rfl) (by kernel_rfl) rfl rfl (fun w hS => mv rfl rfl rfl ⟨rfl, rfl⟩) (St.untail (A := [(b13, .cells (BV (Vector.replicate 16 0)) 22), (b5, .cells (BV nonce) 81)]) (X := X27) (R := []) hS).tl ?_
        refine dq 7 rfl (by kernel_rfl) (by kernel_rfl) (by kernel_rfl) rfl rfl (fun w hS => ext rfl rfl rfl rfl ⟨rfl, rfl⟩) (St.untail (A := [(b13, .cells (BV (Vector.replicate 16 0)) 22), (b5, .cells (BV nonce) 81)]) (X := X27) (R := []) hS).tl ?_
        refine dq 8 rfl (by kernel_rfl) (by kernel_rfl) (by kernel_rfl) rfl rfl (fun w hS => ext rfl rfl rfl rfl ⟨rfl, rfl⟩) (St.untail (A := [(b13, .cells (BV (Vector.replicate 16 0)) 22), (b5, .cells (BV nonce) 81)]) (X := X27) (R := []) hS).tl ?_
        refine dq 9 rfl (by kernel_rfl) (by kernel_rfl) (by kernel_rfl) rfl rfl (fun w hS => ext rfl rfl rfl rfl ⟨rfl, rfl⟩) (St.untail (A := [(b13, .cells (BV (Vector.replicate 16 0)) 22), (b5, .cells (BV nonce) 81)]) (X := X27) (R := []) hS).tl ?_
        refine dl 10 rfl (by kernel_rfl) ?_
        refine ala zr22 hS rfl rfl ?_
        intro b12 w hb12 hS
        refine ⟨fun _ => (St.untail (A := [(b12, .cells (BV (Vector.replicate 16 0)) 22), (b13, .cells (BV (Vector.replicate 16 0)) 22), (b5, .cells (BV nonce) 81)]) (X := X27) (R := []) hS).tl.tl, ?_⟩
        refine dq 12 rfl (by kernel_rfl) (by kernel_rfl) (by kernel_rfl) rfl rfl (fun w hS => asg rfl rfl rfl ⟨rfl, rfl⟩) (St.untail (A := [(b12, .cells (BV (Vector.replicate 16 0)) 22), (b13, .cells (BV (Vector.replicate 16 0)) 22), (b5, .cells (BV nonce) 81)]) (X := X27) (R := []) hS).tl.tl ?_
        refine dl 13 rfl (by kernel_rfl) ?_
        refine sa 0 ag22 hS rfl rfl rfl (BV_one _) rfl (BV_size _) (BV_size _) ?_
        intro w hS
        refine ⟨fun _ => (St.untail (A := [(b12, .cells (BV (decC key nonce ((bs).take (n - 16)))) 22), (b13, .cells (BV (Vector.replicate 16 0)) 22), (b5, .cells (BV nonce) 81)]) (X := X27) (R := []) hS).tl.tl, ?_⟩
        refine dl 14 rfl (by kernel_rfl) ?_
        refine sa 1 ag22 hS rfl rfl rfl (BV_one _) rfl (BV_size _) (BV_size _) ?_
        intro w hS
        refine ⟨fun h => (by cases h), ?_⟩
        refine de (by kernel_rfl) ?_
        refine wq_then ?_
        refine rg ?_
        refine mv rfl rfl rfl ?_
        refine la 0 ag22 hS rfl rfl rfl rfl (BV_size _) ?_
        refine la 1 ag22 hS rfl rfl rfl rfl (BV_size _) ?_
        refine mv rfl rfl rfl ?_
        refine cv cf56 hS rfl rfl rfl rfl rfl (sp_seal_Tag (t) (c) (key) ((decC key nonce ((bs).take (n - 16)))) ((cryO key nonce (n - 16))) (a2) (n2) (cap2) (bs2) _ (hT.st hS) (by first | rfl | omega | (simp; omega) | (simp; done)) (by omega) (he2.st hS) (by omega) (hG.st hS)) ?_
        intro w hS
        refine ala zr22 hS rfl rfl ?_
        intro b14 w hb14 hS
        refine sa 0 ag22 hS rfl rfl rfl (BV_one _) rfl (BV_size _) (BV_size _) ?_
        intro w hS
        refine wq_then ?_
        refine wc_seq ?_
        refine rd mo 6 (fun w => St w0 [] ([(b14, .cells (BV (tagV key (decC key nonce ((bs).take (n - 16))) (cryO key nonce (n - 16)) bs2)) 22), (b12, .cells (BV (decC key nonce ((bs).take (n - 16)))) 22), (b13, .cells (BV (cryO key nonce (n - 16))) 22), (b5, .cells (BV nonce) 81)] ++ (X27 ++ [])) w) ?_
        have hS := hS.drew
        refine dq 0 rfl (by kernel_rfl) (by kernel_rfl) (by kernel_rfl) rfl rfl (fun w hS => a_all Tryz.underlying22 ⟨_, sz5⟩ rfl rfl rfl ⟨rfl, rfl⟩) hS ?_
        refine dq 1 rfl (by kernel_rfl) (by kernel_rfl) (by kernel_rfl) rfl rfl (fun w hS => mv rfl rfl rfl ⟨rfl, rfl⟩) hS ?_
        refine dq 2 rfl (by kernel_rfl) (by kernel_rfl) (by kernel_rfl) rfl rfl (fun w hS => mv rfl rfl rfl ⟨rfl, rfl⟩) hS ?_
        refine dq 3 rfl (by kernel_rfl) (by kernel_rfl) (by kernel_rfl) rfl rfl (fun w hS => s_l ((n - 16)) Tryz.underlying25 sz5 rfl rfl rfl rfl (by omega) (by omega) ⟨rfl, rfl⟩) hS ?_
        refine dl 4 rfl (by kernel_rfl) ?_
        refine cv cf58 hS rfl rfl rfl rfl rfl (sp_bits_Equal ((some ⟨b14, 0, none⟩)) (16) (16) (((tagV key (decC key nonce ((bs).take (n - 16))) (cryO key nonce (n - 16)) bs2).toList)) ((sla a (n - 16) cap)) ((n - (n - 16))) ((cap - (n - 16))) (((bs).drop (n - 16))) _ Vector.length_toList (by omega) (Cel.bv (hS.get 0 rfl)) (by first | rfl | omega | (simp; omega) | (simp; done)) (by omega) ((hc.st hS).drop8 (lo := (n - 16)) (cap := cap) (by first | omega | (simp; omega) | simp))) ?_
        intro w hS
        refine ⟨fun _ => hS, ?_⟩
        refine dq 5 rfl (by kernel_rfl) (by kernel_rfl) (by kernel_rfl) rfl rfl (fun w hS => notb rfl rfl rfl ⟨rfl, rfl⟩) hS ?_
        refine de (by kernel_rfl) ?_
        refine wq_then ?_
        refine wc_if rfl (fun hc6 => ?_) (fun hc6 => ?_)
        · skip
          try simp only [SB] at hc6
          have he0 := hc6
          refine rg ?_
          refine mki cc40 rfl rfl rfl ?_
          refine asg rfl rfl rfl ?_
          refine asg rfl rfl rfl ?_
          refine wq_then ?_
          refine wc_ret ?_
          refine q_then_ret ?_
          refine fin2 (v := (.slice none 0 0)) (u := (.iface 40 (I (3)))) rfl rfl rfl ?_
          have he : opnE key nonce bs2 bs = 3 := opnE_f hn (by omega) he0
          exact ⟨_, [], rfl, ⟨none, 0, 0, opn_e (by decide) he, opn_o (by decide) he⟩, hS.drop⟩
        · skip
          try simp only [SB] at hc6
          have he0 := hc6
          refine wc_skip ?_
          refine wq_then ?_
          refine rg ?_
          refine mv rfl rfl rfl ?_
          refine asg rfl rfl rfl ?_
          refine asg rfl rfl rfl ?_
          refine wq_then ?_
          refine wc_ret ?_
          refine fin2 (v := .slice a27 (n - 16) c27) (u := .nilIface) rfl rfl rfl ?_
          have he : opnE key nonce bs2 bs = 0 := opnE_t hn (by omega) he0
          exact ⟨_, X27, rfl, ⟨_, _, _, opn_e0 he, opn_o0 hn he hO27⟩, hS.sublist (.cons _ (.cons _ (.cons _ (.cons _ (List.sublist_append_left X27 [])))))⟩
      · skip
        refine ala zr22 hS rfl rfl ?_
        intro b12 w hb12 hS
        refine ⟨fun _ => hS.tl.tl, ?_⟩
        refine dl 5 rfl (by kernel_rfl) ?_
        refine cs cf57 hS rfl rfl rfl rfl rfl (sp_open_Decrypt (t) (c) (key) (nonce) (a) ((n - 16)) (cap) (((bs).take (n - 16))) _ (hT.st hS) (by first | rfl | omega | (simp; omega) | (simp; done)) (by omega) ((hc.st hS).take8 (n - 16)) (by omega) (hG.st hS)) ?_
        rintro _ X27 w ⟨a27, c27, rfl, hO27⟩ hS
        have hS := St.tailin (X := X27) hS [(b12, .cells (BV (Vector.replicate 16 0)) 22), (b13, .cells (BV (Vector.replicate 16 0)) 22), (b5, .cells (BV nonce) 81)] [] rfl
        refine ⟨fun _ => (St.untail (A := [(b12, .cells (BV (Vector.replicate 16 0)) 22), (b13, .cells (BV (Vector.replicate 16 0)) 22), (b5, .cells (BV nonce) 81)]) (X := X27) (R := []) hS).tl.tl, ?_⟩
        refine dq 6 rfl (by kernel_rfl) (by kernel_rfl) (by kernel_rfl) rfl rfl (fun w hS => mv rfl rfl rfl ⟨rfl, rfl⟩) (St.untail (A := [(b12, .cells (BV (Vector.replicate 16 0)) 22), (b13, .cells (BV (Vector.replicate 16 0)) 22), (b5, .cells (BV nonce) 81)]) (X := X27) (R := []) hS).tl.tl ?_
        refine dq 7 rfl (by kernel_rfl) (by kernel_rfl) (by kernel_rfl) rfl rfl (fun w hS => ext rfl rfl rfl rfl ⟨rfl, rfl⟩) (St.untail (A := [(b12, .cells (BV (Vector.replicate 16 0)) 22), (b13, .cells (BV (Vector.replicate 16 0)) 22), (b5, .cells (BV nonce) 81)]) (X := X27) (R := []) hS).tl.tl ?_
        refine dq 8 rfl (by kernel_rfl) (by kernel_rfl) (by kernel_rfl) rfl rfl (fun w hS => ext rfl rfl rfl rfl ⟨rfl, rfl⟩) (St.untail (A := [(b12, .cells (BV (Vector.replicate 16 0)) 22), (b13, .cells (BV (Vector.replicate 16 0)) 22), (b5, .cells (BV nonce) 81)]) (X := X27) (R := []) hS).tl.tl ?_
        refine dq 9 rfl (by kernel_rfl) (by kernel_rfl) (by kernel_rfl) rfl rfl (fun w hS => ext rfl rfl rfl rfl ⟨rfl, rfl⟩) (St.untail (A := [(b12, .cells (BV (Vector.replicate 16 0)) 22), (b13, .cells (BV (Vector.replicate 16 0)) 22), (b5, .cells (BV nonce) 81)]) (X := X27) (R := []) hS).tl.tl ?_
        refine dq 12 rfl (by kernel_rfl) (by kernel_rfl) (by kernel_rfl) rfl rfl (fun w hS => asg rfl rfl rfl ⟨rfl, rfl⟩) (St.untail (A := [(b12, .cells (BV (Vector.replicate 16 0)) 22), (b13, .cells (BV (Vector.replicate 16 0)) 22), (b5, .cells (BV nonce) 81)]) (X := X27) (R := []) hS).tl.tl ?_
        refine dl 13 rfl (by kernel_rfl) ?_
        refine sa 0 ag22 hS rfl rfl rfl (BV_one _) rfl (BV_size _) (BV_size _) ?_
        intro w hS
        refine ⟨fun _ => (St.untail (A := [(b12, .cells (BV (decC key nonce ((bs).take (n - 16)))) 22), (b13, .cells (BV (Vector.replicate 16 0)) 22), (b5, .cells (BV nonce) 81)]) (X := X27) (R := []) hS).tl.tl, ?_⟩
        refine dl 14 rfl (by kernel_rfl) ?_
        refine sa 1 ag22 hS rfl rfl rfl (BV_one _) rfl (BV_size _) (BV_size _) ?_
        intro w hS
        refine ⟨fun h => (by cases h), ?_⟩
        refine de (by kernel_rfl) ?_
        refine wq_then ?_
        refine rg ?_
        refine mv rfl rfl rfl ?_
        refine la 0 ag22 hS rfl rfl rfl rfl (BV_size _) ?_
        refine la 1 ag22 hS rfl rfl rfl rfl (BV_size _) ?_
        refine mv rfl rfl rfl ?_
        refine cv cf56 hS rfl rfl rfl rfl rfl (sp_seal_Tag (t) (c) (key) ((decC key nonce ((bs).take (n - 16)))) ((cryO key nonce (n - 16))) (a2) (n2) (cap2) (bs2) _ (hT.st hS) (by first | rfl | omega | (simp; omega) | (simp; done)) (by omega) (he2.st hS) (by omega) (hG.st hS)) ?_
        intro w hS
        refine ala zr22 hS rfl rfl ?_
        intro b14 w hb14 hS
        refine sa 0 ag22 hS rfl rfl rfl (BV_one _) rfl (BV_size _) (BV_size _) ?_
        intro w hS
        refine wq_then ?_
        refine wc_seq ?_
        refine rd mo 6 (fun w => St w0 [] ([(b14, .cells (BV (tagV key (decC key nonce ((bs).take (n - 16))) (cryO key nonce (n - 16)) bs2)) 22), (b12, .cells (BV (decC key nonce ((bs).take (n - 16)))) 22), (b13, .cells (BV (cryO key nonce (n - 16))) 22), (b5, .cells (BV nonce) 81)] ++ (X27 ++ [])) w) ?_
        have hS := hS.drew
        refine dq 0 rfl (by kernel_rfl) (by kernel_rfl) (by kernel_rfl) rfl rfl (fun w hS => a_all Tryz.underlying22 ⟨_, sz5⟩ rfl rfl rfl ⟨rfl, rfl⟩) hS ?_
        refine dq 1 rfl (by kernel_rfl) (by kernel_rfl) (by kernel_rfl) rfl rfl (fun w hS => mv rfl rfl rfl ⟨rfl, rfl⟩) hS ?_
        refine dq 2 rfl (by kernel_rfl) (by kernel_rfl) (by kernel_rfl) rfl rfl (fun w hS => mv rfl rfl rfl ⟨rfl, rfl⟩) hS ?_
        refine dq 3 rfl (by kernel_rfl) (by kernel_rfl) (by kernel_rfl) rfl rfl (fun w hS => s_l ((n - 16)) Tryz.underlying25 sz5 rfl rfl rfl rfl (by omega) (by omega) ⟨rfl, rfl⟩) hS ?_
        refine dl 4 rfl (by kernel_rfl) ?_
        refine cv cf58 hS rfl rfl rfl rfl rfl (sp_bits_Equal ((some ⟨b14, 0, none⟩)) (16) (16) (((tagV key (decC key nonce ((bs).take (n - 16))) (cryO key nonce (n - 16)) bs2).toList)) ((sla a (n - 16) cap)) ((n - (n - 16))) ((cap - (n - 16))) (((bs).drop (n - 16))) _ Vector.length_toList (by omega) (Cel.bv (hS.get 0 rfl)) (by first | rfl | omega | (simp; omega) | (simp; done)) (by omega) ((hc.st hS).drop8 (lo := (n - 16)) (cap := cap) (by first | omega | (simp; omega) | simp))) ?_
        intro w hS
        refine ⟨fun _ => hS, ?_⟩
        refine dq 5 rfl (by kernel_rfl) (by kernel_rfl) (by kernel_rfl) rfl rfl (fun w hS => notb rfl rfl rfl ⟨rfl, rfl⟩) hS ?_
        refine de (by kernel_rfl) ?_
        refine wq_then ?_
        refine wc_if rfl (fun hc7 => ?_) (fun hc7 => ?_)
        · skip
          try simp only [SB] at hc7
          have he0 := hc7
          refine rg ?_
          refine mki cc40 rfl rfl rfl ?_
          refine asg rfl rfl rfl ?_
          refine asg rfl rfl rfl ?_
          refine wq_then ?_
          refine wc_ret ?_
          refine q_then_ret ?_
          refine fin2 (v := (.slice none 0 0)) (u := (.iface 40 (I (3)))) rfl rfl rfl ?_
          have he : opnE key nonce bs2 bs = 3 := opnE_f hn (by omega) he0
          exact ⟨_, [], rfl, ⟨none, 0, 0, opn_e (by decide) he, opn_o (by decide) he⟩, hS.drop⟩
        · skip
          try simp only [SB] at hc7
          have he0 := hc7
          refine wc_skip ?_
          refine wq_then ?_
          refine rg ?_
          refine mv rfl rfl rfl ?_
          refine asg rfl rfl rfl ?_
          refine asg rfl rfl rfl ?_
          refine wq_then ?_
          refine wc_ret ?_
          refine fin2 (v := .slice a27 (n - 16) c27) (u := .nilIface) rfl rfl rfl ?_
          have he : opnE key nonce bs2 bs = 0 := opnE_t hn (by omega) he0
          exact ⟨_, X27, rfl, ⟨_, _, _, opn_e0 he, opn_o0 hn he hO27⟩, hS.sublist (.cons _ (.cons _ (.cons _ (.cons _ (List.sublist_append_left X27 [])))))⟩
end Go.Proofs.XZ

/- walks -/
namespace Go.Proofs.XZ
open Go Go.X Go.Proofs
set_option maxRecDepth 100000 in
theorem sp_packet_Decode (t c : Nat) (key : V8 16) (a : Option Addr) (n cap : Nat) (bs : List UInt8) (w0 : World) (hT : TabAt w0 t c key) (hn : bs.length = n) (hN : n ≤ 1000000) (hc : Cel w0 a (c8 bs)) (hcap : n ≤ cap) (hG : Gl 0 w0) : Calls Tryz.prog 12 #[Ptr t 0, .slice a n cap] w0 (RetS w0 (fun v X => DecR key bs 40 v X)) := by
  refine enter (args := [Ptr t 0, .slice a n cap]) Tryz.func12 rfl rfl ?_
  refine startw fun w hS => ?_
  obtain ⟨⟨T, hT1⟩, E, hC⟩ := id hT
  refine rg ?_
  refine ala zr27 hS rfl rfl ?_
  intro b4 w hb4 hS
  refine asg rfl rfl rfl ?_
  refine wq_then ?_
  refine wc_seq ?_
  refine rg ?_
  refine mv rfl rfl rfl ?_
  refine lens Tryz.underlying25 rfl rfl rfl ?_
  refine cv cf33 hS rfl rfl rfl rfl rfl (sp_packet_length (n) _ _ (by omega)) ?_
  intro w hS
  refine asg rfl rfl rfl ?_
  refine wq_then ?_
  refine rg ?_
  refine mv rfl rfl rfl ?_
  refine neE (C := 40) (c := (lng n)) Tryz.underlying35 rfl rfl rfl ?_
  refine wq_then ?_
  refine wc_if rfl (fun hc1 => ?_) (fun hc1 => ?_)
  · skip
    try simp only [SB] at hc1
    have hk : lng n ≠ 0 := by simpa using hc1
    have hq := dcdE_1 (key := key) hn hk
    refine rg ?_
    refine bd (cs := #[I (0), U64 (0), U16 (0), U16 (0), (.slice none 0 0)]) rfl rfl rfl (by kernel_rfl) ?_
    refine mv rfl rfl rfl ?_
    refine sa 0 ag27 hS rfl rfl rfl (by kernel_rfl) rfl rfl rfl ?_
    intro w hS
    refine asg rfl rfl rfl ?_
    refine wq_then ?_
    refine wc_ret ?_
    refine q_then_ret ?_
    refine fin2 (v := .agg (#[I (0), U64 (0), U16 (0), U16 (0), (.slice none 0 0)])) (u := (errV 40 (lng n))) rfl ⟨_, rfl, lv_a ag27 (hS.get 0 rfl) rfl⟩ rfl ?_
    have hj : dcdE key bs ≠ 0 := by rw [hq]; exact hk
    rw [← hq]
    exact ⟨_, [], rfl, dec_bad hj, hS.drop⟩
  · skip
    try simp only [SB] at hc1
    have hk : lng n = 0 := by simpa using hc1
    have hq := dcdE_2 (key := key) hn hk
    have h28 := lng_0 hk
    refine wc_skip ?_
    refine wq_then ?_
    refine rd mo 12 (fun w => St w0 [] [(b4, .cells (#[I (0), U64 (0), U16 (0), U16 (0), (.slice none 0 0)]) 27)] w) ?_
    have hS := hS.drew
    refine dq 0 rfl (by kernel_rfl) (by kernel_rfl) (by kernel_rfl) rfl rfl (fun w hS => mv rfl rfl rfl ⟨rfl, rfl⟩) hS ?_
    refine dq 1 rfl (by kernel_rfl) (by kernel_rfl) (by kernel_rfl) rfl rfl (fun w hS => mv rfl rfl rfl ⟨rfl, rfl⟩) hS ?_
    refine dq 2 rfl (by kernel_rfl) (by kernel_rfl) (by kernel_rfl) rfl rfl (fun w hS => s2b Tryz.underlying74 rfl rfl rfl (by omega) ((hc.st hS).some8 (j := 0) (by first | omega | (simp; omega) | simp)) ⟨rfl, rfl⟩) hS ?_
    refine dq 3 rfl (by kernel_rfl) (by kernel_rfl) (by kernel_rfl) rfl rfl (fun w hS => ld rfl rfl rfl (lv_celj 0 ag74 (hc.st hS) (by first | omega | (simp; done) | (simp; omega)) (by omega)) ⟨rfl, rfl⟩) hS ?_
    refine dq 5 rfl (by kernel_rfl) (by kernel_rfl) (by kernel_rfl) rfl rfl (fun w hS => mv rfl rfl rfl ⟨rfl, rfl⟩) hS ?_
    refine dq 6 rfl (by kernel_rfl) (by kernel_rfl) (by kernel_rfl) rfl rfl (fun w hS => s_l (8) Tryz.underlying25 sz5 rfl rfl rfl rfl (by omega) (by omega) ⟨rfl, rfl⟩) hS ?_
    refine dl 4 rfl (by kernel_rfl) ?_
    refine cv cf32 hS rfl rfl rfl rfl rfl (sp_nonce_Whole ((ofl 8 bs)) _) ?_
    intro w hS
    refine ⟨fun _ => hS, ?_⟩
    refine dl 7 rfl (by kernel_rfl) ?_
    refine cs cf34 hS rfl rfl rfl rfl rfl (sp_open_Open (t) (c) (key) ((nonceV (ofl 8 bs))) ((sla a 8 cap)) ((n - 8)) ((cap - 8)) (((bs).drop 8)) (none) (0) (0) (([])) _ (hT.st hS) (by first | rfl | omega | (simp; omega) | (simp; done)) (by omega) ((hc.st hS).drop8 (lo := 8) (cap := cap) (by first | omega | (simp; omega) | simp)) (by omega) rfl (by omega) (Cel.nil _ _) (by omega) (hG.st hS)) ?_
    rintro _ X28 w ⟨a28, n28, c28, rfl, hO28⟩ hS
    have hS := St.tailin (X := X28) hS [(b4, .cells (#[I (0), U64 (0), U16 (0), U16 (0), (.slice none 0 0)]) 27)] [] rfl
    refine ⟨fun _ => (St.untail (A := [(b4, .cells (#[I (0), U64 (0), U16 (0), U16 (0), (.slice none 0 0)]) 27)]) (X := X28) (R := []) hS), ?_⟩
    refine dq 8 rfl (by kernel_rfl) (by kernel_rfl) (by kernel_rfl) rfl rfl (fun w hS => mv rfl rfl rfl ⟨rfl, rfl⟩) (St.untail (A := [(b4, .cells (#[I (0), U64 (0), U16 (0), U16 (0), (.slice none 0 0)]) 27)]) (X := X28) (R := []) hS) ?_
    refine dq 9 rfl (by kernel_rfl) (by kernel_rfl) (by kernel_rfl) rfl rfl (fun w hS => ext rfl rfl rfl rfl ⟨rfl, rfl⟩) (St.untail (A := [(b4, .cells (#[I (0), U64 (0), U16 (0), U16 (0), (.slice none 0 0)]) 27)]) (X := X28) (R := []) hS) ?_
    refine dq 10 rfl (by kernel_rfl) (by kernel_rfl) (by kernel_rfl) rfl rfl (fun w hS => ext rfl rfl rfl rfl ⟨rfl, rfl⟩) (St.untail (A := [(b4, .cells (#[I (0), U64 (0), U16 (0), U16 (0), (.slice none 0 0)]) 27)]) (X := X28) (R := []) hS) ?_
    refine dq 11 rfl (by kernel_rfl) (by kernel_rfl) (by kernel_rfl) rfl rfl (fun w hS => asg rfl rfl rfl ⟨rfl, rfl⟩) (St.untail (A := [(b4, .cells (#[I (0), U64 (0), U16 (0), U16 (0), (.slice none 0 0)]) 27)]) (X := X28) (R := []) hS) ?_
    refine dl 12 rfl (by kernel_rfl) ?_
    refine asg rfl rfl rfl ?_
    refine ⟨fun h => (by cases h), ?_⟩
    refine de (by kernel_rfl) ?_
    refine wq_then ?_
    refine wc_seq ?_
    refine rg ?_
    refine mv rfl rfl rfl ?_
    refine neE (C := 40) (c := (opnE key (nonceV (ofl 8 bs)) ([]) ((bs).drop 8))) Tryz.underlying35 rfl rfl rfl ?_
    refine wq_then ?_
    refine wc_if rfl (fun hc2 => ?_) (fun hc2 => ?_)
    · skip
      try simp only [SB] at hc2
      have hj : dcdE key bs ≠ 0 := by rw [hq]; simpa using hc2
      refine rg ?_
      refine bd (cs := #[I (0), U64 (0), U16 (0), U16 (0), (.slice none 0 0)]) rfl rfl rfl (by kernel_rfl) ?_
      refine mv rfl rfl rfl ?_
      refine sa 0 ag27 hS rfl rfl rfl (by kernel_rfl) rfl rfl rfl ?_
      intro w hS
      refine asg rfl rfl rfl ?_
      refine wq_then ?_
      refine wc_ret ?_
      refine q_then_ret ?_
      refine fin2 (v := .agg (#[I (0), U64 (0), U16 (0), U16 (0), (.slice none 0 0)])) (u := (errV 40 (opnE key (nonceV (ofl 8 bs)) ([]) ((bs).drop 8)))) rfl ⟨_, rfl, lv_a ag27 (hS.get 0 rfl) rfl⟩ rfl ?_
      rw [← hq]
      exact ⟨_, [], rfl, dec_bad hj, hS.drop⟩
    · skip
      try simp only [SB] at hc2
      have hj : dcdE key bs = 0 := by rw [hq]; simpa using hc2
      rw [← hq, if_pos hj] at hO28
      have hO28 : Own 1 a28 n28 c28 (c8 (dcdX key bs)) X28 := hO28
      have hl28 := hO28.len8
      have hl29 := dcdX_len key bs
      have hl30 := hO28.le
      refine wc_skip ?_
      refine wq_then ?_
      refine rg ?_
      refine mv rfl rfl rfl ?_
      refine cv cf35 hS rfl rfl rfl rfl rfl (sp_nonce_ParseHead (a) (n) (cap) (bs) _ (by first | rfl | omega | (simp; omega) | (simp; done)) (by omega) (hc.st hS) (by omega) (by omega)) ?_
      intro w hS
      refine mv rfl rfl rfl ?_
      refine ext rfl rfl rfl rfl ?_
      refine ext rfl rfl rfl rfl ?_
      refine ext rfl rfl rfl rfl ?_
      refine asg rfl rfl rfl ?_
      refine asg rfl rfl rfl ?_
      refine asg rfl rfl rfl ?_
      refine wq_then ?_
      refine rg ?_
      refine mv rfl rfl rfl ?_
      refine s_h (4) Tryz.underlying25 ⟨_, sz5⟩ rfl rfl rfl rfl (by omega) (by omega) ?_
      refine cv cf36 hS rfl rfl rfl rfl rfl (sp_bits_Number (a28) (4) (c28) (((dcdX key bs).take 4)) _ (by first | rfl | omega | (simp; omega) | (simp; done)) (by omega) ((hO28.cel hS (fun p hp => by simp [hp])).take8 4) (by omega)) ?_
      intro w hS
      refine asg rfl rfl rfl ?_
      refine wq_then ?_
      refine rg ?_
      refine mv rfl rfl rfl ?_
      refine mv rfl rfl rfl ?_
      refine mv rfl rfl rfl ?_
      refine shrn64 (16) (by omega) rfl rfl rfl rfl ?_
      refine cvu16 Tryz.underlying24 ⟨_, Tryz.underlying23⟩ rfl rfl rfl ?_
      refine mv rfl rfl rfl ?_
      refine cvu16 Tryz.underlying24 ⟨_, Tryz.underlying23⟩ rfl rfl rfl ?_
      refine mv rfl rfl rfl ?_
      refine s_l (4) Tryz.underlying25 sz5 rfl rfl rfl rfl (by omega) (by omega) ?_
      refine bd (cs := #[I ((headD bs : Nat) : Int), U64 (headS bs), U16 (toU16 (((shr64 (number ((dcdX key bs).take 4)) 16).toNat : Int))), U16 (toU16 (((number ((dcdX key bs).take 4)).toNat : Int))), .slice (sla a28 4 c28) (n28 - 4) (c28 - 4)]) rfl rfl rfl (by kernel_rfl) ?_
      refine sa 0 ag27 hS rfl rfl rfl (by kernel_rfl) rfl rfl rfl ?_
      intro w hS
      refine asg rfl rfl rfl ?_
      refine wq_then ?_
      refine wc_ret ?_
      refine fin2 (v := .agg (#[I ((headD bs : Nat) : Int), U64 (headS bs), U16 (toU16 (((shr64 (number ((dcdX key bs).take 4)) 16).toNat : Int))), U16 (toU16 (((number ((dcdX key bs).take 4)).toNat : Int))), .slice (sla a28 4 c28) (n28 - 4) (c28 - 4)])) (u := .nilIface) rfl ⟨_, rfl, lv_a ag27 (hS.get 0 rfl) rfl⟩ rfl ?_
      exact ⟨_, X28, rfl, dec_ok hj (by omega) hl28 (by omega) hO28, hS.sublist (.cons _ (List.sublist_append_left X28 []))⟩
end Go.Proofs.XZ

/- walks -/
namespace Go.Proofs.XZ
open Go Go.X Go.Proofs
set_option maxRecDepth 100000 in
theorem sp_mooringlaw17_awake (w0 : World) (hG : Gl 0 w0) : Calls Tryz.prog 5 #[] w0 (Ret w0 (.bool true)) := by
  refine enter (args := []) Tryz.func5 rfl rfl ?_
  refine startw fun w hS => ?_
  refine rg ?_
  refine asg rfl rfl rfl ?_
  refine wq_then ?_
  refine rg ?_
  refine bd (cs := BV (Vector.replicate 16 0)) rfl rfl rfl (by kernel_rfl) ?_
  refine cs cf8 hS rfl rfl rfl rfl rfl (sp_fast_New ((Vector.replicate 16 0)) _) ?_
  rintro _ _ w ⟨c13, rfl, rfl⟩ hS
  refine cs cf7 hS rfl rfl rfl rfl rfl (sp_table_New (c13) (_) ((Vector.replicate 16 0)) _ (hS.get 0 rfl)) ?_
  rintro _ _ w ⟨t14, rfl, rfl⟩ hS
  refine asg rfl rfl rfl ?_
  refine wq_then ?_
  refine rg ?_
  refine bsl (cs := #[U8 (104), U8 (101), U8 (108), U8 (108), U8 (111)]) sl25 hS rfl rfl rfl rfl (by kernel_rfl) ?_
  intro b15 w hb15 hS
  refine cvb 0 Tryz.underlying25 Tryz.underlying5 hS rfl rfl rfl rfl ?_
  intro w hS
  refine bd (cs := #[I (1), U64 (7), U16 (258), U16 (3), .slice (some ⟨b15, 0, none⟩) 5 5]) rfl rfl rfl (by kernel_rfl) ?_
  refine ala zr27 hS rfl rfl ?_
  intro b2 w hb2 hS
  refine sa 0 ag27 hS rfl rfl rfl (by kernel_rfl) rfl rfl rfl ?_
  intro w hS
  refine wq_then ?_
  refine rg ?_
  refine mv rfl rfl rfl ?_
  refine la 0 ag27 hS rfl rfl rfl rfl rfl ?_
  refine cs cf9 hS rfl rfl rfl rfl rfl (sp_packet_Encode (t14) (c13) ((Vector.replicate 16 0)) (1) (7) (258) (3) ((some ⟨b15, 0, none⟩)) (5) (5) (([104, 101, 108, 108, 111])) _ (⟨⟨_, hS.get 2 rfl⟩, _, hS.get 3 rfl⟩) (by first | rfl | omega | (simp; omega) | (simp; done)) (by omega) (Cel.lb (l := [104, 101, 108, 108, 111]) (hS.get 1 rfl)) (by omega) (hG.st hS)) ?_
  rintro _ X21 w ⟨a21, n21, c21, rfl, hO21⟩ hS
  have hS := St.tailin (X := X21) hS [(b2, .cells (#[I (1), U64 (7), U16 (258), U16 (3), .slice (some ⟨b15, 0, none⟩) 5 5]) 27), (b15, .cells (#[U8 (104), U8 (101), U8 (108), U8 (108), U8 (111)]) 5 (5, 5 + 1)), (t14, .cells (tableC c13 (Vector.replicate 16 0)) 61), (c13, .cells (cipherC (Vector.replicate 16 0)) 70)] [] rfl
  obtain ⟨P, hP⟩ : ∃ P, P = encP (Vector.replicate 16 0) 1 7 258 3 [104, 101, 108, 108, 111] := ⟨_, rfl⟩
  rw [← hP] at hO21
  obtain ⟨aL, aE, aS, aD, aQ⟩ := aw_facts hP
  have hl21 := hO21.len8
  have hc21 := hO21.le
  refine mv rfl rfl rfl ?_
  refine ext rfl rfl rfl rfl ?_
  refine ext rfl rfl rfl rfl ?_
  refine asg rfl rfl rfl ?_
  refine asg rfl rfl rfl ?_
  refine wq_then ?_
  refine rg ?_
  refine mv rfl rfl rfl ?_
  refine mv rfl rfl rfl ?_
  refine cs cf12 hS rfl rfl rfl rfl rfl (sp_packet_Decode (t14) (c13) ((Vector.replicate 16 0)) (a21) (n21) (c21) (P) _ (⟨⟨_, hS.get 2 rfl⟩, _, hS.get 3 rfl⟩) hO21.len8 (by omega) (hO21.cel hS (fun p hp => by simp [hp])) (by omega) (hG.st hS)) ?_
  rintro _ X27 w ⟨a27, n27, c27, rfl, hl27, hm27, hc27, hR27⟩ hS
  have hS := St.tailin (X := X27) hS [(b2, .cells (#[I (1), U64 (7), U16 (258), U16 (3), .slice (some ⟨b15, 0, none⟩) 5 5]) 27), (b15, .cells (#[U8 (104), U8 (101), U8 (108), U8 (108), U8 (111)]) 5 (5, 5 + 1)), (t14, .cells (tableC c13 (Vector.replicate 16 0)) 61), (c13, .cells (cipherC (Vector.replicate 16 0)) 70)] (X21 ++ []) rfl
  refine mv rfl rfl rfl ?_
  refine ext rfl rfl rfl rfl ?_
  refine ext rfl rfl rfl rfl ?_
  refine ala zr27 hS rfl rfl ?_
  intro b5 w hb5 hS
  refine sa 0 ag27 hS rfl rfl rfl (by kernel_rfl) rfl rfl rfl ?_
  intro w hS
  refine asg rfl rfl rfl ?_
  refine wq_then ?_
  refine rg ?_
  refine mv rfl rfl rfl ?_
  refine cs cf12 hS rfl rfl rfl rfl rfl (sp_packet_Decode (t14) (c13) ((Vector.replicate 16 0)) (none) (0) (0) (([])) _ (⟨⟨_, hS.get 3 rfl⟩, _, hS.get 4 rfl⟩) rfl (by omega) (Cel.nil _ _) (by omega) (hG.st hS)) ?_
  rintro _ X32 w ⟨a32, n32, c32, rfl, hl32, hm32, hc32, hR32⟩ hS
  have hS := St.tailin (X := X32) hS [(b5, .cells (#[I (((dcdD (Vector.replicate 16 0) P : Nat) : Int)), U64 (dcdS (Vector.replicate 16 0) P), U16 (dcdT (Vector.replicate 16 0) P), U16 (dcdM (Vector.replicate 16 0) P), .slice a27 n27 c27]) 27), (b2, .cells (#[I (1), U64 (7), U16 (258), U16 (3), .slice (some ⟨b15, 0, none⟩) 5 5]) 27), (b15, .cells (#[U8 (104), U8 (101), U8 (108), U8 (108), U8 (111)]) 5 (5, 5 + 1)), (t14, .cells (tableC c13 (Vector.replicate 16 0)) 61), (c13, .cells (cipherC (Vector.replicate 16 0)) 70)] (X27 ++ (X21 ++ [])) rfl
  refine mv rfl rfl rfl ?_
  refine ext rfl rfl rfl rfl ?_
  refine ext rfl rfl rfl rfl ?_
  refine ala zr27 hS rfl rfl ?_
  intro b7 w hb7 hS
  refine sa 0 ag27 hS rfl rfl rfl (by kernel_rfl) rfl rfl rfl ?_
  intro w hS
  refine asg rfl rfl rfl ?_
  refine wq_then ?_
  refine rg ?_
  refine mv rfl rfl rfl ?_
  refine cv cf18 hS rfl rfl rfl rfl rfl (sp_packet_Peek (a21) (n21) (c21) (P) _ hO21.len8 (by omega) (hO21.cel hS (fun p hp => by simp [hp])) (by omega)) ?_
  intro w hS
  refine mv rfl rfl rfl ?_
  refine ext rfl rfl rfl rfl ?_
  refine ext rfl rfl rfl rfl ?_
  refine ext rfl rfl rfl rfl ?_
  refine asg rfl rfl rfl ?_
  refine asg rfl rfl rfl ?_
  refine asg rfl rfl rfl ?_
  refine wq_then ?_
  refine rg ?_
  refine mv rfl rfl rfl ?_
  refine lens Tryz.underlying25 rfl rfl rfl ?_
  refine eqi rfl rfl rfl rfl ?_
  refine mv rfl rfl rfl ?_
  refine spl 44 rfl (fun hb1 => ?_) (fun hb1 => ?_)
  · skip
    try simp only [SB] at hb1
    refine mv rfl rfl rfl ?_
    refine eqE (C := 40) (c := (chk 1 7 5)) Tryz.underlying35 rfl rfl rfl ?_
    refine pk_t rfl rfl rfl rfl ?_
    refine mv rfl rfl rfl ?_
    refine spl 48 rfl (fun hb2 => ?_) (fun hb2 => ?_)
    · skip
      try simp only [SB] at hb2
      refine la 1 ag27 hS rfl rfl rfl rfl rfl ?_
      refine la 2 ag27 hS rfl rfl rfl rfl rfl ?_
      refine cv cf16 hS rfl rfl rfl rfl rfl (sp_mooringref17_Same (((dcdD (Vector.replicate 16 0) P : Nat) : Int)) ((dcdS (Vector.replicate 16 0) P)) ((dcdT (Vector.replicate 16 0) P)) ((dcdM (Vector.replicate 16 0) P)) (a27) (n27) (c27) ((dcdP (Vector.replicate 16 0) P)) (1) (7) (258) (3) ((some ⟨b15, 0, none⟩)) (5) (5) (([104, 101, 108, 108, 111])) _ hl27 (by omega) (hR27 _ _ _ _ hS (fun p hp => by simp [hp])) (by first | rfl | omega | (simp; omega) | (simp; done)) (by omega) (Cel.lb (l := [104, 101, 108, 108, 111]) (hS.get 3 rfl))) ?_
      intro w hS
      refine pk_t rfl rfl rfl rfl ?_
      refine mv rfl rfl rfl ?_
      refine spl 53 rfl (fun hb3 => ?_) (fun hb3 => ?_)
      · skip
        try simp only [SB] at hb3
        refine mv rfl rfl rfl ?_
        refine eqE (C := 40) (c := (dcdE (Vector.replicate 16 0) P)) Tryz.underlying35 rfl rfl rfl ?_
        refine pk_t rfl rfl rfl rfl ?_
        refine mv rfl rfl rfl ?_
        refine spl 57 rfl (fun hb4 => ?_) (fun hb4 => ?_)
        · skip
          try simp only [SB] at hb4
          refine mv rfl rfl rfl ?_
          refine mki cc40 rfl rfl rfl ?_
          refine eqEE (c := (dcdE (Vector.replicate 16 0) ([]))) Tryz.underlying35 ec40 rfl rfl rfl rfl ?_
          refine pk_t rfl rfl rfl rfl ?_
          refine mv rfl rfl rfl ?_
          refine spl 62 rfl (fun hb5 => ?_) (fun hb5 => ?_)
          · skip
            try simp only [SB] at hb5
            refine mv rfl rfl rfl ?_
            refine eqi rfl rfl rfl rfl ?_
            refine pk_t rfl rfl rfl rfl ?_
            refine mv rfl rfl rfl ?_
            refine spl 66 rfl (fun hb6 => ?_) (fun hb6 => ?_)
            · skip
              try simp only [SB] at hb6
              refine mv rfl rfl rfl ?_
              refine eqi rfl rfl rfl rfl ?_
              refine pk_t rfl rfl rfl rfl ?_
              refine mv rfl rfl rfl ?_
              refine spl 70 rfl (fun hb7 => ?_) (fun hb7 => ?_)
              · skip
                try simp only [SB] at hb7
                refine mv rfl rfl rfl ?_
                refine pk_t rfl rfl rfl rfl ?_
                refine mv rfl rfl rfl ?_
                refine spl 73 rfl (fun hb8 => ?_) (fun hb8 => ?_)
                · skip
                  try simp only [SB] at hb8
                  refine cv cf19 hS rfl rfl rfl rfl rfl (sp_packet_Size (5) _) ?_
                  intro w hS
                  refine eqi rfl rfl rfl rfl ?_
                  refine pk_t rfl rfl rfl rfl ?_
                  refine mv rfl rfl rfl ?_
                  refine spl 77 rfl (fun hb9 => ?_) (fun hb9 => ?_)
                  · skip
                    try simp only [SB] at hb9
                    refine la 2 ag27 hS rfl rfl rfl rfl rfl ?_
                    refine cv cf11 hS rfl rfl rfl rfl rfl (sp_packet_Right (1) (7) (258) (3) ((some ⟨b15, 0, none⟩)) (5) (5) _) ?_
                    intro w hS
                    refine pk_t rfl rfl rfl rfl ?_
                    refine mv rfl rfl rfl ?_
                    refine spl 81 rfl (fun hb10 => ?_) (fun hb10 => ?_)
                    · skip
                      try simp only [SB] at hb10
                      refine la 2 ag27 hS rfl rfl rfl rfl rfl ?_
                      refine la 2 ag27 hS rfl rfl rfl rfl rfl ?_
                      refine cv cf20 hS rfl rfl rfl rfl rfl (sp_packet_Same (1) (7) (258) (3) ((some ⟨b15, 0, none⟩)) (5) (5) (([104, 101, 108, 108, 111])) (1) (7) (258) (3) ((some ⟨b15, 0, none⟩)) (5) (5) (([104, 101, 108, 108, 111])) _ (by first | rfl | omega | (simp; omega) | (simp; done)) (by omega) (Cel.lb (l := [104, 101, 108, 108, 111]) (hS.get 3 rfl)) (by first | rfl | omega | (simp; omega) | (simp; done)) (by omega) (Cel.lb (l := [104, 101, 108, 108, 111]) (hS.get 3 rfl))) ?_
                      intro w hS
                      refine pk_t rfl rfl rfl rfl ?_
                      refine mv rfl rfl rfl ?_
                      refine spl 86 rfl (fun hb11 => ?_) (fun hb11 => ?_)
                      · skip
                        try simp only [SB] at hb11
                        refine la 2 ag27 hS rfl rfl rfl rfl rfl ?_
                        refine bd (cs := #[I (0), U64 (0), U16 (0), U16 (0), (.slice none 0 0)]) rfl rfl rfl (by kernel_rfl) ?_
                        refine cv cf20 hS rfl rfl rfl rfl rfl (sp_packet_Same (1) (7) (258) (3) ((some ⟨b15, 0, none⟩)) (5) (5) (([104, 101, 108, 108, 111])) (0) (0) (0) (0) (none) (0) (0) (([])) _ (by first | rfl | omega | (simp; omega) | (simp; done)) (by omega) (Cel.lb (l := [104, 101, 108, 108, 111]) (hS.get 3 rfl)) rfl (by omega) (Cel.nil _ _)) ?_
                        intro w hS
                        refine notb rfl rfl rfl ?_
                        refine pk_t rfl rfl rfl rfl ?_
                        refine asg rfl rfl rfl ?_
                        refine wq_then ?_
                        refine wc_ret ?_
                        refine fin1 (v := .bool (!(sameV (restV 1 7 258 3) (restV 0 0 0 0) ([104, 101, 108, 108, 111]) ([])))) rfl rfl ?_
                        refine ⟨?_, hS.drop⟩
                        rw [sameV_f (by decide)]; rfl
                      · skip
                        try simp only [SB] at hb11
                        rw [sameV_self] at hb11; cases hb11
                    · skip
                      try simp only [SB] at hb10
                      exact absurd (by decide) hb10
                  · skip
                    try simp only [SB] at hb9
                    exact absurd (by decide) hb9
                · skip
                  try simp only [SB] at hb8
                  have h1 : n21 = 33 := (by omega); exact absurd (show lng n21 = 0 by rw [h1]; decide) (by simpa using hb8)
              · skip
                try simp only [SB] at hb7
                exact absurd (by rw [aQ]; rfl) hb7
            · skip
              try simp only [SB] at hb6
              exact absurd (by rw [aD]; rfl) hb6
          · skip
            try simp only [SB] at hb5
            exact absurd (by rw [dcdE_nil]; decide) hb5
        · skip
          try simp only [SB] at hb4
          exact absurd aE hb4
      · skip
        try simp only [SB] at hb3
        rw [aS] at hb3; cases hb3
    · skip
      try simp only [SB] at hb2
      exact absurd (by decide) hb2
  · skip
    try simp only [SB] at hb1
    omega
end Go.Proofs.XZ

/- From a row's reading of the arguments to what the walks ask; and back. -/
namespace Go.X
open Go Go.ChangeShapes Go.WideShapes Go.ChangeAt Go.RowKit Go.Deep

section
variable {H : Type} {enc : TypeId × Value → H} {P : Program} {w : World} {base : Nat} {spare : Nat → Bool} {held : Bool} {fuel : Nat}

def u8of (z : Int) : UInt8 := UInt8.ofNat z.toNat
theorem u8_wf {z : Int} (h : (Lit.int .u8 z).wf = true) : (.int .u8 z : Value) = U8 (u8of z) := by
  simp [Lit.wf, IntKind.min, IntKind.max, IntKind.signed, IntKind.bits] at h
  have : ((u8of z).toNat : Int) = z := by simp only [u8of, UInt8.toNat_ofNat']; omega
  show Value.int .u8 z = .int .u8 ((u8of z).toNat : Int)
  rw [this]
theorem u16_wf {z : Int} (h : (Lit.int .u16 z).wf = true) : (.int .u16 z : Value) = U16 (UInt16.ofNat z.toNat) := by
  simp [Lit.wf, IntKind.min, IntKind.max, IntKind.signed, IntKind.bits] at h
  have : ((UInt16.ofNat z.toNat).toNat : Int) = z := by simp only [UInt16.toNat_ofNat']; omega
  show Value.int .u16 z = .int .u16 ((UInt16.ofNat z.toNat).toNat : Int)
  rw [this]
theorem u64_wf {z : Int} (h : (Lit.int .u64 z).wf = true) : (.int .u64 z : Value) = U64 (UInt64.ofNat z.toNat) := by
  simp [Lit.wf, IntKind.min, IntKind.max, IntKind.signed, IntKind.bits] at h
  have : ((UInt64.ofNat z.toNat).toNat : Int) = z := by simp only [UInt64.toNat_ofNat']; omega
  show Value.int .u64 z = .int .u64 ((UInt64.ofNat z.toNat).toNat : Int)
  rw [this]
theorem i64_wf {z : Int} (h : (Lit.int .i64 z).wf = true) : -9223372036854775808 ≤ z ∧ z < 9223372036854775808 := by
  simp [Lit.wf, IntKind.min, IntKind.max, IntKind.signed, IntKind.bits] at h
  omega
/-- a slice of bytes, opened -/
theorem opn_bytes {t e : TypeId} {v : Value} {x : DataW H × List MemPlace} (ht : P.underlying t = some (.slice e)) (he : P.underlying e = some (.int .u8)) (hc : P.cellsOf e = 1) (h : DataW.trod enc P w base spare held fuel t [v] = some x) :
    ∃ a n cap bs, v = .slice a n cap ∧ bs.length = n ∧ n ≤ cap ∧ Cel w a (c8 bs) := by
  rcases open_ints ht he hc h with ⟨h0, _⟩ | ⟨a, len, cap, zs, h0, _, hl, _, hz, _, hcell, hwf⟩
  · exact ⟨none, 0, 0, [], by simpa using h0, rfl, Nat.le_refl _, Cel.nil _ _⟩
  · have hlen : len ≤ zs.length := by rw [hz]; split <;> omega
    refine ⟨some a, len, cap, (zs.take len).map u8of, by simpa using h0, by simp; omega, hl, fun j v hj => ⟨rfl, ?_⟩⟩
    have hjl : j < len := by
      have := (List.getElem?_eq_some_iff.1 hj).1
      simp [c8] at this; omega
    have hjz : j < zs.length := by omega
    have h1 := hcell j hjz
    have h2 : zs.getD j 0 = zs[j] := by simp [hjz]
    have h3 := u8_wf (hwf zs[j] (List.getElem_mem hjz))
    have h4 : (c8 ((zs.take len).map u8of))[j]? = some (U8 (u8of zs[j])) := by
      simp [c8, List.getElem?_take, hjl, hjz]
    rw [h4] at hj
    obtain rfl := Option.some.inj hj
    rw [h2, h3] at h1
    have e : adr (some a) j = a.add j := rfl
    rw [e]; exact h1
theorem opn_i64 {t : TypeId} {v : Value} {x : DataW H × List MemPlace} (ht : P.underlying t = some (.int .i64)) (h : DataW.trod enc P w base spare held fuel t [v] = some x) : ∃ z : Int, v = I z ∧ -9223372036854775808 ≤ z ∧ z < 9223372036854775808 := by
  obtain ⟨z, h1, _, h2⟩ := DataW.trod_int ht h
  exact ⟨z, by simpa using h1, i64_wf h2⟩
theorem opn_u64 {t : TypeId} {v : Value} {x : DataW H × List MemPlace} (ht : P.underlying t = some (.int .u64)) (h : DataW.trod enc P w base spare held fuel t [v] = some x) : ∃ z : UInt64, v = U64 z := by
  obtain ⟨z, h1, _, h2⟩ := DataW.trod_int ht h
  exact ⟨_, by rw [← u64_wf h2]; simpa using h1⟩
theorem opn_u16 {t : TypeId} {v : Value} {x : DataW H × List MemPlace} (ht : P.underlying t = some (.int .u16)) (h : DataW.trod enc P w base spare held fuel t [v] = some x) : ∃ z : UInt16, v = U16 z := by
  obtain ⟨z, h1, _, h2⟩ := DataW.trod_int ht h
  exact ⟨_, by rw [← u16_wf h2]; simpa using h1⟩
/-- an argument of one cell -/
theorem trod_one {t : TypeId} {v : Value} {d : DataW H} {ps : List MemPlace} (hv : v.cells = #[v]) (h : DataW.Trod enc P w base spare held t v d ps) : ∃ fuel, DataW.trod enc P w base spare held fuel t [v] = some (d, ps) := by
  obtain ⟨fuel, hf⟩ := h
  rw [hv] at hf
  exact ⟨fuel, hf⟩
theorem arg_bytes {r : Reach} {b0 : Nat} {t e : TypeId} {v : Value} {d : DataW H} {ps : List MemPlace} (ht : P.underlying t = some (.slice e)) (he : P.underlying e = some (.int .u8)) (hc : P.cellsOf e = 1) (hv : Value.okWide P w r b0 t v) (h : DataW.Trod enc P w base spare held t v d ps) :
    ∃ a n cap bs, v = .slice a n cap ∧ bs.length = n ∧ n ≤ cap ∧ Cel w a (c8 bs) := by
  obtain ⟨a, l, c, rfl⟩ := okWide_slice ht hv
  obtain ⟨fuel, hf⟩ := trod_one rfl h
  exact opn_bytes ht he hc hf
theorem arg_i64 {r : Reach} {b0 : Nat} {t : TypeId} {v : Value} {d : DataW H} {ps : List MemPlace} (ht : P.underlying t = some (.int .i64)) (hv : Value.okWide P w r b0 t v) (h : DataW.Trod enc P w base spare held t v d ps) : ∃ z : Int, v = I z ∧ -9223372036854775808 ≤ z ∧ z < 9223372036854775808 := by
  obtain ⟨n, rfl, _, _, hw⟩ := open_int ht hv h
  exact ⟨n, rfl, i64_wf hw⟩
theorem arg_u16 {r : Reach} {b0 : Nat} {t : TypeId} {v : Value} {d : DataW H} {ps : List MemPlace} (ht : P.underlying t = some (.int .u16)) (hv : Value.okWide P w r b0 t v) (h : DataW.Trod enc P w base spare held t v d ps) : ∃ z : UInt16, v = U16 z := by
  obtain ⟨n, rfl, _, _, hw⟩ := open_int ht hv h
  exact ⟨_, u16_wf hw⟩
theorem arg_u64 {r : Reach} {b0 : Nat} {t : TypeId} {v : Value} {d : DataW H} {ps : List MemPlace} (ht : P.underlying t = some (.int .u64)) (hv : Value.okWide P w r b0 t v) (h : DataW.Trod enc P w base spare held t v d ps) : ∃ z : UInt64, v = U64 z := by
  obtain ⟨n, rfl, _, _, hw⟩ := open_int ht hv h
  exact ⟨_, u64_wf hw⟩
/-- a packet -/
theorem arg_packet {r : Reach} {b0 : Nat} {t e : TypeId} {f0 f1 f2 f3 f4 : Field} {v : Value} {d : DataW H} {ps : List MemPlace} (ht : P.underlying t = some (.struct #[f0, f1, f2, f3, f4])) (hone : oneCellFields P #[f0, f1, f2, f3, f4] = true) (hC : P.cellsOf t = 5)
    (h0 : P.underlying f0.type = some (.int .i64)) (h1 : P.underlying f1.type = some (.int .u64)) (h2 : P.underlying f2.type = some (.int .u16)) (h3 : P.underlying f3.type = some (.int .u16)) (h4 : P.underlying f4.type = some (.slice e))
    (he : P.underlying e = some (.int .u8)) (hc : P.cellsOf e = 1) (hv : Value.okWide P w r b0 t v) (h : DataW.Trod enc P w base spare held t v d ps) :
    ∃ dr s tm ec a n cap bs, v = .agg #[I dr, U64 s, U16 tm, U16 ec, .slice a n cap] ∧ (-9223372036854775808 ≤ dr ∧ dr < 9223372036854775808) ∧ bs.length = n ∧ n ≤ cap ∧ Cel w a (c8 bs) := by
  obtain ⟨cs, rfl, hsz⟩ := okWide_struct ht hv
  obtain ⟨fuel, hf⟩ := h
  obtain ⟨xs, n, _, _, _, _, hg⟩ := DataW.trod_struct ht hf
  obtain ⟨l⟩ := cs
  rw [hC] at hsz
  match l, hsz with
  | [c0, c1, c2, c3, c4], _ =>
    have fld : ∀ (i : Nat) (f : Field) (c : Value), (#[f0, f1, f2, f3, f4] : Array Field)[i]? = some f → [c0, c1, c2, c3, c4][i]? = some c → ∃ y, DataW.trod enc P w base spare held n f.type [c] = some y := by
      intro i f c hi hci
      obtain ⟨o, k⟩ := hone_of hone i f hi
      have h5 := hg i f hi
      rw [o, k] at h5
      have hx : xs.length = 5 := by
        have : xs.length = (#[f0, f1, f2, f3, f4] : Array Field).size := by assumption
        simpa using this
      have hi5 : i < 5 := by simpa using (List.getElem?_eq_some_iff.1 hci).1
      have e1 : (((Value.agg ⟨[c0, c1, c2, c3, c4]⟩).cells.toList.drop i).take 1) = [c] := by
        have e2 : (Value.agg ⟨[c0, c1, c2, c3, c4]⟩).cells.toList = [c0, c1, c2, c3, c4] := rfl
        rw [e2]
        have hlt := (List.getElem?_eq_some_iff.1 hci).1
        have := (List.getElem?_eq_some_iff.1 hci).2
        rw [List.drop_eq_getElem_cons hlt, this]; rfl
      rw [e1] at h5
      exact ⟨xs[i]'(by omega), by rw [h5, List.getElem?_eq_getElem (by omega)]⟩
    obtain ⟨y0, k0⟩ := fld 0 f0 c0 rfl rfl
    obtain ⟨y1, k1⟩ := fld 1 f1 c1 rfl rfl
    obtain ⟨y2, k2⟩ := fld 2 f2 c2 rfl rfl
    obtain ⟨y3, k3⟩ := fld 3 f3 c3 rfl rfl
    obtain ⟨y4, k4⟩ := fld 4 f4 c4 rfl rfl
    obtain ⟨dr, rfl, hd1, hd2⟩ := opn_i64 h0 k0
    obtain ⟨s, rfl⟩ := opn_u64 h1 k1
    obtain ⟨tm, rfl⟩ := opn_u16 h2 k2
    obtain ⟨ec, rfl⟩ := opn_u16 h3 k3
    obtain ⟨a, m, cap, bs, rfl, hb, hl, hcel⟩ := opn_bytes h4 he hc k4
    exact ⟨dr, s, tm, ec, a, m, cap, bs, rfl, ⟨hd1, hd2⟩, hb, hl, hcel⟩
/-- an array of bytes -/
theorem arg_array {r : Reach} {b0 m : Nat} {t e : TypeId} {v : Value} {d : DataW H} {ps : List MemPlace} (ht : P.underlying t = some (.array m e)) (he : P.underlying e = some (.int .u8)) (hc : P.cellsOf e = 1) (hC : P.cellsOf t = m)
    (hv : Value.okWide P w r b0 t v) (h : DataW.Trod enc P w base spare held t v d ps) : ∃ k : V8 m, v = .agg (BV k) := by
  have hv' := hv
  simp only [Value.okWide, ht] at hv'
  obtain ⟨cs, rfl, hsz, _⟩ := hv'
  rw [hC] at hsz
  obtain ⟨fuel, hf⟩ := h
  obtain ⟨xs, n, _, _, _, hxl, hg⟩ := DataW.trod_array ht hf
  have each : ∀ i (hi : i < m), ∃ z, cs[i]? = some (U8 z) := by
    intro i hi
    have h5 := hg i hi
    rw [hc, Nat.mul_one] at h5
    have hlt : i < cs.toList.length := by simp; omega
    have e1 : (((Value.agg cs).cells.toList.drop i).take 1) = [cs.toList[i]] := by
      have e2 : (Value.agg cs).cells = cs := rfl
      rw [e2, List.drop_eq_getElem_cons hlt]; rfl
    rw [e1, List.getElem?_eq_getElem (by omega)] at h5
    obtain ⟨z, h6, _, h7⟩ := DataW.trod_int he h5
    refine ⟨u8of z, ?_⟩
    rw [← u8_wf h7]
    have h8 : cs.toList[i] = .int .u8 z := by simpa using h6
    have hlt' : i < cs.size := by omega
    rw [Array.getElem?_eq_getElem hlt']
    simpa using h8
  refine ⟨Vector.ofFn fun i => (each i.val i.isLt).choose, ?_⟩
  congr 1
  apply arr_ext; intro i
  by_cases hi : i < m
  · rw [(each i hi).choose_spec, BV_get', if_pos hi, gv_ofFn _ _ hi]
  · rw [Array.getElem?_eq_none (by omega), BV_get', if_neg hi]

/-- the arguments read behind the call as before -/
theorem args_below {ts : List TypeId} {vs : List Value} {ds : List (DataW H)} {ps : List MemPlace} {W W' : World} (hl : laidOutB P = true) (hr : ∀ t ∈ ts, P.readableRec t = true ∧ t < P.types.size)
    (h : DataW.TrodAll enc P W 0 (fun _ => true) true ts vs ds ps) (hb : Below W.heap.size W W') (hlt : ∀ x ∈ ps, x.block < W.heap.size) : DataW.TrodAll enc P W' 0 (fun b => decide (b < W.heap.size)) true ts vs ds ps := by
  induction ts generalizing vs ds ps with
  | nil => obtain ⟨rfl, rfl, rfl⟩ := trodAll_nil h; rfl
  | cons t ts ih =>
    obtain ⟨v, vs', d, ds', p, q, rfl, rfl, rfl, h0, r0⟩ := trodAll_cons h
    exact trodAll_cons_mk (Below.trod hl (hr t (by simp)).1 (hr t (by simp)).2 h0 hb (fun x hx => hlt x (by simp [hx]))) (ih (fun u hu => hr u (by simp [hu])) r0 (fun x hx => hlt x (by simp [hx])))

def deBz : List Int := [0, 1, 56, 2, 57, 49, 28, 3, 61, 58, 42, 50, 38, 29, 17, 4, 62, 47, 59, 36, 45, 43, 51, 22, 53, 39, 33, 30, 24, 18, 12, 5, 63, 55, 48, 27, 60, 41, 37, 16, 46, 35, 44, 21, 52, 32, 23, 11, 54, 26, 40, 15, 34, 20, 31, 10, 25, 14, 19, 9, 13, 8, 7, 6]
theorem gl_of_tab {W : World} {g : Nat} {name : String} (hg : P.globalNamed name = some g) (h : Lib.TabIs P W name .u8 deBz) : Gl g W := by
  intro j v hj
  refine ⟨rfl, ?_⟩
  have hlt : j < 64 := by
    have := (List.getElem?_eq_some_iff.1 hj).1
    simpa [c8, deBl] using this
  have h1 := h.cell hg j (by simpa [deBz] using hlt)
  have h2 : ∀ i : Fin 64, deBz.getD i.val 0 = ((gl deBl i.val).toNat : Int) := by decide +kernel
  have h3 := h2 ⟨j, hlt⟩
  rw [c8_get deBl j (by simpa [deBl] using hlt)] at hj
  obtain rfl := Option.some.inj hj
  simp only [] at h3
  rw [adr_some, Nat.zero_add, h1, h3]
end
end Go.X

/- Rules that the reference needs: division of unsigned numbers, shifts of ints by a number, arrays and slices of ints. -/
namespace Go.X
open Go
section
variable {P : Program} {ops : Array Oper} {n : Nat} {l : Regs} {w w0 : World} {K : Regs → World → Prop} {F : List Nat} {L A R X : List (Nat × Obj)}
variable {d T S S2 : Nat} {ps : String} {af : Array Edge} {g : Option (Nat × Bool)} {x y : Operand} {v u : Value} {a : Option Addr} {m cap e : Nat}
theorem quo8 {R : Nat} {p q : UInt8} (h : q ≠ 0) (hg : gval ops l ⟨some d, .binOp .quo S x y R, T, ps, af, g⟩ = some true) (hd : Nat.blt d n = true) (hx : ev l x = some (U8 p)) (hy : ev l y = some (U8 q)) (k : K ((d, U8 (p / q)) :: l) w) :
    WO P ops n ⟨some d, .binOp .quo S x y R, T, ps, af, g⟩ l w K :=
  WO.val hg hd (fun a ha => by
    simp only [execOp, ha.ev hx, ha.ev hy, Sem.run_bind]
    have h0 : ¬ ((q.toNat : Int) = 0) := fun e => h (UInt8.toNat_inj.1 (by simpa using e))
    have e : ((p.toNat : Int)).tdiv (q.toNat : Int) = ((p / q : UInt8).toNat : Int) := by rw [UInt8.toNat_div]; rfl
    have hlt := (p / q).toNat_lt
    have e2 : IntKind.u8.wrap ((p / q : UInt8).toNat : Int) = ((p / q : UInt8).toNat : Int) := by rw [wrap_u8]; omega
    simp only [eqGuard, binOp, Op.intDiv, h0, e, e2]
    simp) k
theorem rem8 {R : Nat} {p q : UInt8} (h : q ≠ 0) (hg : gval ops l ⟨some d, .binOp .rem S x y R, T, ps, af, g⟩ = some true) (hd : Nat.blt d n = true) (hx : ev l x = some (U8 p)) (hy : ev l y = some (U8 q)) (k : K ((d, U8 (p % q)) :: l) w) :
    WO P ops n ⟨some d, .binOp .rem S x y R, T, ps, af, g⟩ l w K :=
  WO.val hg hd (fun a ha => by
    simp only [execOp, ha.ev hx, ha.ev hy, Sem.run_bind]
    have h0 : ¬ ((q.toNat : Int) = 0) := fun e => h (UInt8.toNat_inj.1 (by simpa using e))
    have e : ((p.toNat : Int)).tmod (q.toNat : Int) = ((p % q : UInt8).toNat : Int) := by rw [UInt8.toNat_mod]; rfl
    have hlt := (p % q).toNat_lt
    have e2 : IntKind.u8.wrap ((p % q : UInt8).toNat : Int) = ((p % q : UInt8).toNat : Int) := by rw [wrap_u8]; omega
    simp only [eqGuard, binOp, Op.intDiv, h0, e, e2]
    simp) k
theorem quo16 {R : Nat} {p q : UInt16} (h : q ≠ 0) (hg : gval ops l ⟨some d, .binOp .quo S x y R, T, ps, af, g⟩ = some true) (hd : Nat.blt d n = true) (hx : ev l x = some (U16 p)) (hy : ev l y = some (U16 q)) (k : K ((d, U16 (p / q)) :: l) w) :
    WO P ops n ⟨some d, .binOp .quo S x y R, T, ps, af, g⟩ l w K :=
  WO.val hg hd (fun a ha => by
    simp only [execOp, ha.ev hx, ha.ev hy, Sem.run_bind]
    have h0 : ¬ ((q.toNat : Int) = 0) := fun e => h (UInt16.toNat_inj.1 (by simpa using e))
    have e : ((p.toNat : Int)).tdiv (q.toNat : Int) = ((p / q : UInt16).toNat : Int) := by rw [UInt16.toNat_div]; rfl
    have hlt := (p / q).toNat_lt
    have e2 : IntKind.u16.wrap ((p / q : UInt16).toNat : Int) = ((p / q : UInt16).toNat : Int) := by rw [wrap_u16]; omega
    simp only [eqGuard, binOp, Op.intDiv, h0, e, e2]
    simp) k
theorem rem16 {R : Nat} {p q : UInt16} (h : q ≠ 0) (hg : gval ops l ⟨some d, .binOp .rem S x y R, T, ps, af, g⟩ = some true) (hd : Nat.blt d n = true) (hx : ev l x = some (U16 p)) (hy : ev l y = some (U16 q)) (k : K ((d, U16 (p % q)) :: l) w) :
    WO P ops n ⟨some d, .binOp .rem S x y R, T, ps, af, g⟩ l w K :=
  WO.val hg hd (fun a ha => by
    simp only [execOp, ha.ev hx, ha.ev hy, Sem.run_bind]
    have h0 : ¬ ((q.toNat : Int) = 0) := fun e => h (UInt16.toNat_inj.1 (by simpa using e))
    have e : ((p.toNat : Int)).tmod (q.toNat : Int) = ((p % q : UInt16).toNat : Int) := by rw [UInt16.toNat_mod]; rfl
    have hlt := (p % q).toNat_lt
    have e2 : IntKind.u16.wrap ((p % q : UInt16).toNat : Int) = ((p % q : UInt16).toNat : Int) := by rw [wrap_u16]; omega
    simp only [eqGuard, binOp, Op.intDiv, h0, e, e2]
    simp) k
theorem quo32 {R : Nat} {p q : UInt32} (h : q ≠ 0) (hg : gval ops l ⟨some d, .binOp .quo S x y R, T, ps, af, g⟩ = some true) (hd : Nat.blt d n = true) (hx : ev l x = some (U32 p)) (hy : ev l y = some (U32 q)) (k : K ((d, U32 (p / q)) :: l) w) :
    WO P ops n ⟨some d, .binOp .quo S x y R, T, ps, af, g⟩ l w K :=
  WO.val hg hd (fun a ha => by
    simp only [execOp, ha.ev hx, ha.ev hy, Sem.run_bind]
    have h0 : ¬ ((q.toNat : Int) = 0) := fun e => h (UInt32.toNat_inj.1 (by simpa using e))
    have e : ((p.toNat : Int)).tdiv (q.toNat : Int) = ((p / q : UInt32).toNat : Int) := by rw [UInt32.toNat_div]; rfl
    have hlt := (p / q).toNat_lt
    have e2 : IntKind.u32.wrap ((p / q : UInt32).toNat : Int) = ((p / q : UInt32).toNat : Int) := by rw [wrap_u32]; omega
    simp only [eqGuard, binOp, Op.intDiv, h0, e, e2]
    simp) k
theorem rem32 {R : Nat} {p q : UInt32} (h : q ≠ 0) (hg : gval ops l ⟨some d, .binOp .rem S x y R, T, ps, af, g⟩ = some true) (hd : Nat.blt d n = true) (hx : ev l x = some (U32 p)) (hy : ev l y = some (U32 q)) (k : K ((d, U32 (p % q)) :: l) w) :
    WO P ops n ⟨some d, .binOp .rem S x y R, T, ps, af, g⟩ l w K :=
  WO.val hg hd (fun a ha => by
    simp only [execOp, ha.ev hx, ha.ev hy, Sem.run_bind]
    have h0 : ¬ ((q.toNat : Int) = 0) := fun e => h (UInt32.toNat_inj.1 (by simpa using e))
    have e : ((p.toNat : Int)).tmod (q.toNat : Int) = ((p % q : UInt32).toNat : Int) := by rw [UInt32.toNat_mod]; rfl
    have hlt := (p % q).toNat_lt
    have e2 : IntKind.u32.wrap ((p % q : UInt32).toNat : Int) = ((p % q : UInt32).toNat : Int) := by rw [wrap_u32]; omega
    simp only [eqGuard, binOp, Op.intDiv, h0, e, e2]
    simp) k
theorem quo64 {R : Nat} {p q : UInt64} (h : q ≠ 0) (hg : gval ops l ⟨some d, .binOp .quo S x y R, T, ps, af, g⟩ = some true) (hd : Nat.blt d n = true) (hx : ev l x = some (U64 p)) (hy : ev l y = some (U64 q)) (k : K ((d, U64 (p / q)) :: l) w) :
    WO P ops n ⟨some d, .binOp .quo S x y R, T, ps, af, g⟩ l w K :=
  WO.val hg hd (fun a ha => by
    simp only [execOp, ha.ev hx, ha.ev hy, Sem.run_bind]
    have h0 : ¬ ((q.toNat : Int) = 0) := fun e => h (UInt64.toNat_inj.1 (by simpa using e))
    have e : ((p.toNat : Int)).tdiv (q.toNat : Int) = ((p / q : UInt64).toNat : Int) := by rw [UInt64.toNat_div]; rfl
    have hlt := (p / q).toNat_lt
    have e2 : IntKind.u64.wrap ((p / q : UInt64).toNat : Int) = ((p / q : UInt64).toNat : Int) := by rw [wrap_u64]; omega
    simp only [eqGuard, binOp, Op.intDiv, h0, e, e2]
    simp) k
theorem rem64 {R : Nat} {p q : UInt64} (h : q ≠ 0) (hg : gval ops l ⟨some d, .binOp .rem S x y R, T, ps, af, g⟩ = some true) (hd : Nat.blt d n = true) (hx : ev l x = some (U64 p)) (hy : ev l y = some (U64 q)) (k : K ((d, U64 (p % q)) :: l) w) :
    WO P ops n ⟨some d, .binOp .rem S x y R, T, ps, af, g⟩ l w K :=
  WO.val hg hd (fun a ha => by
    simp only [execOp, ha.ev hx, ha.ev hy, Sem.run_bind]
    have h0 : ¬ ((q.toNat : Int) = 0) := fun e => h (UInt64.toNat_inj.1 (by simpa using e))
    have e : ((p.toNat : Int)).tmod (q.toNat : Int) = ((p % q : UInt64).toNat : Int) := by rw [UInt64.toNat_mod]; rfl
    have hlt := (p % q).toNat_lt
    have e2 : IntKind.u64.wrap ((p % q : UInt64).toNat : Int) = ((p % q : UInt64).toNat : Int) := by rw [wrap_u64]; omega
    simp only [eqGuard, binOp, Op.intDiv, h0, e, e2]
    simp) k
theorem shrin {R : Nat} {p q : Int} {kd : IntKind} (j : Nat) (hq : q = (j : Int)) (h2 : j ≤ 62) (hg : gval ops l ⟨some d, .binOp .shr S x y R, T, ps, af, g⟩ = some true) (hd : Nat.blt d n = true) (hx : ev l x = some (I p)) (hy : ev l y = some (.int kd q)) (k : K ((d, I (p / (2 ^ j : Nat))) :: l) w) :
    WO P ops n ⟨some d, .binOp .shr S x y R, T, ps, af, g⟩ l w K :=
  shri (D := ((2 ^ j : Nat) : Int)) (by omega) (by omega) (by subst hq; simp) hg hd hx hy k
theorem shlin {R : Nat} {p q : Int} {kd : IntKind} (j : Nat) (hq : q = (j : Int)) (h2 : j ≤ 62) (h5 : -9223372036854775808 ≤ p * (2 ^ j : Nat)) (h6 : p * (2 ^ j : Nat) < 9223372036854775808) (hg : gval ops l ⟨some d, .binOp .shl S x y R, T, ps, af, g⟩ = some true) (hd : Nat.blt d n = true) (hx : ev l x = some (I p)) (hy : ev l y = some (.int kd q)) (k : K ((d, I (p * (2 ^ j : Nat))) :: l) w) :
    WO P ops n ⟨some d, .binOp .shl S x y R, T, ps, af, g⟩ l w K :=
  shli (D := ((2 ^ j : Nat) : Int)) (by omega) (by omega) (by subst hq; simp) h5 h6 hg hd hx hy k
end
end Go.X
namespace Go.X
open Go
/-! arrays of ints that are not negative -/
abbrev VN (n : Nat) := Vector Nat n
def NV {n : Nat} (v : VN n) : Array Value := v.toArray.map fun x => I ((x : Nat) : Int)
def gn {n : Nat} (v : VN n) (i : Nat) : Nat := v.toArray.getD i 0
section
variable {n : Nat}
theorem NV_size (v : VN n) : (NV v).size = n := by simp [NV]
theorem gn_eq (v : VN n) (i : Nat) (h : i < n) : gn v i = v[i] := by simp [gn, h]
theorem NV_get (v : VN n) (i : Nat) (h : i < n) : (NV v)[i]? = some (I ((gn v i : Nat) : Int)) := by simp [NV, gn, h]
theorem NV_set (v : VN n) (i : Nat) (x : Nat) : (NV v).setIfInBounds i (I (x : Int)) = NV (v.setIfInBounds i x) := by
  simp only [NV, Vector.toArray_setIfInBounds, Array.map_setIfInBounds]
theorem NV_seti (v : VN n) (i : Nat) (x : Nat) {z : Int} (h : z = (x : Int)) : (NV v).setIfInBounds i (I z) = NV (v.setIfInBounds i x) := by
  subst h; exact NV_set v i x
theorem NV_one (v : VN n) : (NV v).all (fun x => x.oneCell') = true := by
  simp only [NV, Array.all_map]; exact Array.all_eq_true_iff_forall_mem.2 fun _ _ => rfl
theorem NV_rep (n : Nat) : NV (Vector.replicate n 0 : VN n) = (List.replicate n (I 0)).toArray := by
  apply Array.ext'; simp [NV]
theorem gn_set (v : VN n) (k i : Nat) (x : Nat) (h : i < n) : gn (v.setIfInBounds k x) i = if k = i then x else gn v i := by
  rw [gn_eq _ _ h, gn_eq _ _ h, Vector.getElem_setIfInBounds h]
theorem gn_rep (n i : Nat) : gn (Vector.replicate n 0 : VN n) i = 0 := by
  by_cases h : i < n <;> simp [gn, h]
end
theorem toU64_un {z : Int} {n : Nat} (h : z = (n : Int)) (hb : n < 18446744073709551616) : (((toU64 z).toNat : Nat) : Int) = (n : Int) := by
  subst h; rw [toU64_nat _ hb]
/-! slices of ints that are not negative -/
def ci (l : List Nat) : List Value := l.map fun x => I ((x : Nat) : Int)
def gi (l : List Nat) (i : Nat) : Nat := l.getD i 0
theorem ci_len (l : List Nat) : (ci l).length = l.length := by simp [ci]
theorem ci_get (l : List Nat) (j : Nat) (h : j < l.length) : (ci l)[j]? = some (I ((gi l j : Nat) : Int)) := by simp [ci, gi, h]
theorem ci_app (a b : List Nat) : ci a ++ ci b = ci (a ++ b) := by simp [ci]
theorem ci_one (l : List Nat) : ∀ u ∈ ci l, u.oneCell' = true := by
  intro u hu; obtain ⟨x, _, rfl⟩ := List.mem_map.1 hu; rfl
theorem Cel.ci {w : World} {a : Option Addr} {l : List Nat} (h : Cel w a (X.ci l)) {j : Nat} (hj : j < l.length) : w.cell? (adr a j) = some (I ((gi l j : Nat) : Int)) := h.cell (ci_get l j hj)
theorem Cel.somei {w : World} {a : Option Addr} {l : List Nat} (h : Cel w a (X.ci l)) {j : Nat} (hj : j < l.length) : a.isSome = true := (h j _ (ci_get l j hj)).1
end Go.X

/- What the reference's functions on bytes compute: plain Lean. -/
namespace Go.X
open Go

def bt (a : UInt8) (i : Nat) : Nat := (shr8 a i).toNat % 2
theorem mm (a b : Nat) : 0 ≤ ((a : Int) % 2) * ((b : Int) % 2) ∧ ((a : Int) % 2) * ((b : Int) % 2) ≤ 1 := by
  have ha : (a : Int) % 2 = 0 ∨ (a : Int) % 2 = 1 := by omega
  have hb : (b : Int) % 2 = 0 ∨ (b : Int) % 2 = 1 := by omega
  rcases ha with h | h <;> rcases hb with h' | h' <;> rw [h, h'] <;> decide
theorem mmN (a b : Nat) : a % 2 * (b % 2) ≤ 1 := by
  have ha : a % 2 = 0 ∨ a % 2 = 1 := by omega
  have hb : b % 2 = 0 ∨ b % 2 = 1 := by omega
  rcases ha with h | h <;> rcases hb with h' | h' <;> rw [h, h'] <;> decide
/-- a product of polynomials, coefficient by coefficient -/
def mIn (a b : UInt8) (p : VN 15) (i : Nat) : Nat → VN 15
  | 0 => p
  | k + 1 => (mIn a b p i k).setIfInBounds (i + k) (gn (mIn a b p i k) (i + k) + bt a i * bt b k)
def mOut (a b : UInt8) : Nat → VN 15
  | 0 => Vector.replicate 15 0
  | i + 1 => mIn a b (mOut a b i) i 8
theorem mIn_le (a b : UInt8) (p : VN 15) (B i : Nat) (hB : ∀ j, gn p j ≤ B) : ∀ k j, gn (mIn a b p i k) j ≤ B + k
  | 0, j => by simpa [mIn] using hB j
  | k + 1, j => by
    have ih := mIn_le a b p B i hB k
    have hm := mmN (shr8 a i).toNat (shr8 b k).toNat
    by_cases hj : j < 15
    · rw [mIn, gn_set _ _ _ _ hj]
      have h1 := ih j; have h2 := ih (i + k)
      simp only [bt]
      split
      · omega
      · omega
    · have : gn (mIn a b p i (k + 1)) j = 0 := by simp [gn, Vector.size_toArray, show 15 ≤ j by omega]
      omega
theorem mOut_le (a b : UInt8) : ∀ i j, gn (mOut a b i) j ≤ 8 * i
  | 0, j => by rw [mOut, gn_rep]; omega
  | i + 1, j => by
    have := mIn_le a b (mOut a b i) (8 * i) i (mOut_le a b i) 8 j
    rw [mOut]; omega
def incN (q : VN 15) (i : Nat) : VN 15 := q.setIfInBounds i (gn q i + 1)
theorem inc_le (q : VN 15) (i j : Nat) : gn (q.setIfInBounds i (gn q i + 1)) j ≤ gn q j + 1 := by
  by_cases hj : j < 15
  · rw [gn_set _ _ _ _ hj]; split
    · rename_i e; subst e; omega
    · omega
  · have : gn (q.setIfInBounds i (gn q i + 1)) j = 0 := by simp [gn, Vector.size_toArray, show 15 ≤ j by omega]
    omega
def rdR (p : VN 15) : Nat → VN 15
  | 0 => p
  | j + 1 => if gn (rdR p j) (14 - j) % 2 = 1 then incN (incN (incN (incN (rdR p j) (14 - j - 4)) (14 - j - 5)) (14 - j - 7)) (14 - j - 8) else rdR p j
theorem rd_le (p : VN 15) (B : Nat) (hB : ∀ j, gn p j ≤ B) : ∀ k j, gn (rdR p k) j ≤ B + 4 * k
  | 0, j => by simpa [rdR] using hB j
  | k + 1, j => by
    have ih := rd_le p B hB k j
    rw [rdR]; split
    · have h1 := inc_le (rdR p k) (14 - k - 4) j
      have h2 := inc_le (incN (rdR p k) (14 - k - 4)) (14 - k - 5) j
      have h3 := inc_le (incN (incN (rdR p k) (14 - k - 4)) (14 - k - 5)) (14 - k - 7) j
      have h4 := inc_le (incN (incN (incN (rdR p k) (14 - k - 4)) (14 - k - 5)) (14 - k - 7)) (14 - k - 8) j
      simp only [incN] at *; omega
    · omega
theorem rd_t {p : VN 15} {j : Nat} (h : gn (rdR p j) (14 - j) % 2 = 1) : rdR p (j + 1) = incN (incN (incN (incN (rdR p j) (14 - j - 4)) (14 - j - 5)) (14 - j - 7)) (14 - j - 8) := by rw [rdR, if_pos h]
theorem rd_f {p : VN 15} {j : Nat} (h : ¬ gn (rdR p j) (14 - j) % 2 = 1) : rdR p (j + 1) = rdR p j := by rw [rdR, if_neg h]
def smR (p : VN 15) : Nat → Nat
  | 0 => 0
  | k + 1 => smR p k + gn p k % 2 * 2 ^ k
theorem pow8 {k : Nat} (h : k < 8) : 2 ^ k ≤ 128 := Nat.pow_le_pow_right (n := 2) (by omega) (show k ≤ 7 by omega)
theorem shb (x k : Nat) (h : k < 8) : 0 ≤ ((x : Int) % 2) * ((2 ^ k : Nat) : Int) ∧ ((x : Int) % 2) * ((2 ^ k : Nat) : Int) ≤ 128 := by
  have hp := pow8 h
  have hx : (x : Int) % 2 = 0 ∨ (x : Int) % 2 = 1 := by omega
  have h0 : (0 : Int) ≤ ((2 ^ k : Nat) : Int) := Int.natCast_nonneg _
  have h1 : ((2 ^ k : Nat) : Int) ≤ 128 := by omega
  rcases hx with h' | h' <;> rw [h'] <;> omega
theorem shbN (x k : Nat) (h : k < 8) : x % 2 * 2 ^ k ≤ 128 := by
  have hp := pow8 h
  have hx : x % 2 = 0 ∨ x % 2 = 1 := by omega
  rcases hx with h' | h' <;> rw [h'] <;> omega
theorem sm_le (p : VN 15) : ∀ k, k ≤ 8 → smR p k ≤ 128 * k
  | 0, _ => by simp [smR]
  | k + 1, h => by
    have := sm_le p k (by omega)
    have := shbN (gn p k) k (by omega)
    rw [smR]; omega
def mulR (a b : UInt8) : UInt8 := toU8 ((smR (rdR (mOut a b 8) 7) 8 : Nat) : Int)
def pwR (a : UInt8) : Nat → UInt8
  | 0 => 1
  | k + 1 => mulR (pwR a k) a
/-! the same on numbers of base 256 -/
def valL : List Nat → Nat
  | [] => 0
  | x :: r => x + 256 * valL r
theorem valL_set : ∀ (l : List Nat) (i x : Nat), i < l.length → valL (l.set i (l.getD i 0 + x)) = valL l + x * 256 ^ i
  | [], i, x, h => by simp at h
  | y :: r, 0, x, _ => by simp [valL]; omega
  | y :: r, i + 1, x, h => by
    have ih := valL_set r i x (by simpa using h)
    simp only [List.set_cons_succ, List.getD_cons_succ, valL, ih, Nat.pow_succ]
    rw [Nat.mul_add, ← Nat.add_assoc, ← Nat.mul_assoc, ← Nat.mul_assoc, Nat.mul_comm 256 (x)]
    rw [Nat.mul_assoc, Nat.mul_assoc, Nat.mul_comm 256 (256 ^ i)]
theorem valL_dig : ∀ (l : List Nat) (i : Nat), (∀ j, l.getD j 0 < 256) → valL l / 256 ^ i % 256 = l.getD i 0
  | [], i, _ => by simp [valL]
  | y :: r, 0, h => by
    have := h 0
    simp at this
    simp [valL]; omega
  | y :: r, i + 1, h => by
    have h0 := h 0
    simp at h0
    have ih := valL_dig r i (fun j => by simpa using h (j + 1))
    have e : (y + 256 * valL r) / 256 = valL r := by omega
    have e2 : (y + 256 * valL r) / 256 ^ (i + 1) = (y + 256 * valL r) / 256 / 256 ^ i := by rw [Nat.div_div_eq_div_mul, Nat.pow_succ, Nat.mul_comm (256 ^ i)]
    rw [valL, e2, e, ih]; simp
def val {n : Nat} (v : VN n) : Nat := valL v.toList
theorem gn_list {n : Nat} (v : VN n) (i : Nat) : gn v i = v.toList.getD i 0 := by simp [gn, Vector.toList]
theorem val_set {n : Nat} (v : VN n) (i x : Nat) (h : i < n) : val (v.setIfInBounds i (gn v i + x)) = val v + x * 256 ^ i := by
  have e : (v.setIfInBounds i (gn v i + x)).toList = v.toList.set i (v.toList.getD i 0 + x) := by
    rw [gn_list]; simp [Vector.toList, Vector.toArray_setIfInBounds]
  rw [val, e, valL_set _ _ _ (by simpa using h)]; rfl
theorem val_dig {n : Nat} (v : VN n) (i : Nat) (h : ∀ j, gn v j < 256) : val v / 256 ^ i % 256 = gn v i := by
  rw [val, valL_dig _ _ (fun j => by rw [← gn_list]; exact h j), ← gn_list]
theorem val_par {n : Nat} (v : VN n) (i : Nat) (h : ∀ j, gn v j < 256) : val v / 256 ^ i % 2 = gn v i % 2 := by
  have := val_dig v i h
  omega
theorem val_rep (n : Nat) : val (Vector.replicate n 0 : VN n) = 0 := by
  have : ∀ m, valL (List.replicate m 0) = 0 := by
    intro m
    induction m with
    | zero => rfl
    | succ m ih => rw [List.replicate_succ, valL, ih]
  rw [val]; simpa using this n
def bN (a i : Nat) : Nat := a / 2 ^ i % 2
theorem bt_N (a : UInt8) (i : Nat) : bt a i = bN a.toNat i := by
  have h : a.toNat / 2 ^ i ≤ a.toNat := Nat.div_le_self _ _
  have := a.toNat_lt
  simp only [bt, bN, shr8, UInt8.toNat_ofNat']
  rw [Nat.mod_eq_of_lt (a := a.toNat / 2 ^ i) (by omega)]
def spr (a : Nat) : Nat → Nat
  | 0 => 0
  | k + 1 => spr a k + bN a k * 256 ^ k
theorem val_in (a b : UInt8) (p : VN 15) (i : Nat) (hi : i < 8) : ∀ k, k ≤ 8 → val (mIn a b p i k) = val p + bN a.toNat i * 256 ^ i * spr b.toNat k
  | 0, _ => by simp [mIn, spr]
  | k + 1, h => by
    rw [mIn, val_set _ _ _ (by omega), val_in a b p i hi k (by omega), bt_N, bt_N, spr, Nat.mul_add, Nat.pow_add, Nat.add_assoc]
    congr 2
    rw [Nat.mul_assoc, Nat.mul_assoc, Nat.mul_left_comm (bN b.toNat k)]
theorem val_out (a b : UInt8) : ∀ i, i ≤ 8 → val (mOut a b i) = spr a.toNat i * spr b.toNat 8
  | 0, _ => by rw [mOut, val_rep]; simp [spr]
  | i + 1, h => by
    have e : spr a.toNat (i + 1) = spr a.toNat i + bN a.toNat i * 256 ^ i := rfl
    rw [mOut, val_in a b _ i (by omega) 8 (by omega), val_out a b i (by omega), e, Nat.add_mul]
def redF (p i : Nat) : Nat := if p / 256 ^ i % 2 = 1 then p + 256 ^ (i - 4) + 256 ^ (i - 5) + 256 ^ (i - 7) + 256 ^ (i - 8) else p
def redK (p : Nat) : Nat → Nat
  | 0 => p
  | j + 1 => redF (redK p j) (14 - j)
theorem val_inc (q : VN 15) (i : Nat) (h : i < 15) : val (incN q i) = val q + 256 ^ i := by rw [incN, val_set _ _ _ h, Nat.one_mul]
theorem val_rd (p : VN 15) (hp : ∀ j, gn p j ≤ 64) : ∀ k, k ≤ 7 → val (rdR p k) = redK (val p) k
  | 0, _ => rfl
  | k + 1, h => by
    have hlt : ∀ j, gn (rdR p k) j < 256 := fun j => by have := rd_le p 64 hp k j; omega
    have ih := val_rd p hp k (by omega)
    have hpar := val_par (rdR p k) (14 - k) hlt
    rw [redK, ← ih, redF, hpar, rdR]
    split
    · rw [val_inc _ _ (by omega), val_inc _ _ (by omega), val_inc _ _ (by omega), val_inc _ _ (by omega)]
    · rfl
def sumF (p : Nat) : Nat → Nat
  | 0 => 0
  | k + 1 => sumF p k + p / 256 ^ k % 2 * 2 ^ k
theorem val_sm (p : VN 15) (h : ∀ j, gn p j < 256) : ∀ k, smR p k = sumF (val p) k
  | 0 => rfl
  | k + 1 => by rw [smR, sumF, val_sm p h k, val_par p k h]
def mulF (a b : Nat) : Nat := sumF (redK (spr a 8 * spr b 8) 7) 8
theorem mulR_F (a b : UInt8) : mulR a b = UInt8.ofNat (mulF a.toNat b.toNat) := by
  have h1 : ∀ j, gn (mOut a b 8) j ≤ 64 := fun j => by have := mOut_le a b 8 j; omega
  have h2 : ∀ j, gn (rdR (mOut a b 8) 7) j < 256 := fun j => by have := rd_le (mOut a b 8) 64 h1 7 j; omega
  rw [mulR, val_sm _ h2, val_rd _ h1 7 (by omega), val_out a b 8 (by omega), toU8_nat]; rfl
theorem fin8 {p : UInt8 → Prop} (h : ∀ n : Fin 256, p (UInt8.ofNat n.val)) (a : UInt8) : p a := by
  have := h ⟨a.toNat, a.toNat_lt⟩
  simpa using this
theorem onat (n : Fin 256) : (UInt8.ofNat n.val).toNat = n.val := by simp
theorem mulR_3 (a : UInt8) : mulR a 3 = mul a 3 := by
  have h : ∀ n : Fin 256, UInt8.ofNat (mulF n.val 3) = mul (UInt8.ofNat n.val) 3 := by decide +kernel
  refine fin8 (p := fun a => mulR a 3 = mul a 3) (fun n => ?_) a
  rw [mulR_F, onat]; exact h n
theorem mulR_2 (a : UInt8) : mulR a 2 = mul a 2 := by
  have h : ∀ n : Fin 256, UInt8.ofNat (mulF n.val 2) = mul (UInt8.ofNat n.val) 2 := by decide +kernel
  refine fin8 (p := fun a => mulR a 2 = mul a 2) (fun n => ?_) a
  rw [mulR_F, onat]; exact h n
theorem mulR2 (a : UInt8) : mulR 2 a = m2 a := by
  have h : ∀ n : Fin 256, UInt8.ofNat (mulF 2 n.val) = m2 (UInt8.ofNat n.val) := by decide +kernel
  refine fin8 (p := fun a => mulR 2 a = m2 a) (fun n => ?_) a
  rw [mulR_F, onat]; exact h n
theorem mulR3 (a : UInt8) : mulR 3 a = m3 a := by
  have h : ∀ n : Fin 256, UInt8.ofNat (mulF 3 n.val) = m3 (UInt8.ofNat n.val) := by decide +kernel
  refine fin8 (p := fun a => mulR 3 a = m3 a) (fun n => ?_) a
  rw [mulR_F, onat]; exact h n
theorem mulR9 (a : UInt8) : mulR 9 a = m9 a := by
  have h : ∀ n : Fin 256, UInt8.ofNat (mulF 9 n.val) = m9 (UInt8.ofNat n.val) := by decide +kernel
  refine fin8 (p := fun a => mulR 9 a = m9 a) (fun n => ?_) a
  rw [mulR_F, onat]; exact h n
theorem mulR11 (a : UInt8) : mulR 11 a = m11 a := by
  have h : ∀ n : Fin 256, UInt8.ofNat (mulF 11 n.val) = m11 (UInt8.ofNat n.val) := by decide +kernel
  refine fin8 (p := fun a => mulR 11 a = m11 a) (fun n => ?_) a
  rw [mulR_F, onat]; exact h n
theorem mulR13 (a : UInt8) : mulR 13 a = m13 a := by
  have h : ∀ n : Fin 256, UInt8.ofNat (mulF 13 n.val) = m13 (UInt8.ofNat n.val) := by decide +kernel
  refine fin8 (p := fun a => mulR 13 a = m13 a) (fun n => ?_) a
  rw [mulR_F, onat]; exact h n
theorem mulR14 (a : UInt8) : mulR 14 a = m14 a := by
  have h : ∀ n : Fin 256, UInt8.ofNat (mulF 14 n.val) = m14 (UInt8.ofNat n.val) := by decide +kernel
  refine fin8 (p := fun a => mulR 14 a = m14 a) (fun n => ?_) a
  rw [mulR_F, onat]; exact h n
end Go.X

/- The reference's table, keys and block cipher: plain Lean. -/
namespace Go.X
open Go

theorem gv_setE {n : Nat} (v : V8 n) (k i : Nat) (x : UInt8) (h : i < n) : gv (v.setIfInBounds k x) i = if k = i then x else gv v i := by
  rw [gv_eq _ _ h, gv_eq _ _ h, Vector.getElem_setIfInBounds h]
/-! the affine map -/
def afN (b : UInt8) (i : Nat) : Nat → Nat
  | 0 => 99 / 2 ^ i % 2 + bt b i
  | k + 1 => afN b i k + bt b ((i + (4 + k)) % 8)
def afX (b : UInt8) : Nat → Nat
  | 0 => 0
  | i + 1 => afX b i + afN b i 4 % 2 * 2 ^ i
def afR (b : UInt8) : UInt8 := toU8 ((afX b 8 : Nat) : Int)
theorem afN_le (b : UInt8) (i : Nat) : ∀ k, afN b i k ≤ 2 + k
  | 0 => by simp only [afN, bt]; omega
  | k + 1 => by
    have := afN_le b i k
    simp only [afN, bt]; omega
theorem afX_le (b : UInt8) : ∀ i, i ≤ 8 → afX b i ≤ 128 * i
  | 0, _ => by simp [afX]
  | i + 1, h => by
    have := afX_le b i (by omega)
    have := shbN (afN b i 4) i (by omega)
    rw [afX]; omega
theorem afR_aff (b : UInt8) : afR b = aff b := by revert b; refine all_u8 ?_; decide +kernel
/-! the table -/
def pw3R : Nat → UInt8
  | 0 => 1
  | k + 1 => mulR (pw3R k) 3
def pwV : V8 256 := Vector.ofFn fun i => pw3R i.val
def tbR : Nat → V8 256
  | 0 => (Vector.replicate 256 0 : V8 256).setIfInBounds 0 (afR 0)
  | k + 1 => (tbR k).setIfInBounds (gv pwV k).toNat (afR (gv pwV (255 - k)))
def pwl : List UInt8 := [1, 3, 5, 15, 17, 51, 85, 255, 26, 46, 114, 150, 161, 248, 19, 53, 95, 225, 56, 72, 216, 115, 149, 164, 247, 2, 6, 10, 30, 34, 102, 170, 229, 52, 92, 228, 55, 89, 235, 38, 106, 190, 217, 112, 144, 171, 230, 49, 83, 245, 4, 12, 20, 60, 68, 204, 79, 209, 104, 184, 211, 110, 178, 205, 76, 212, 103, 169, 224, 59, 77, 215, 98, 166, 241, 8, 24, 40, 120, 136, 131, 158, 185, 208, 107, 189, 220, 127, 129, 152, 179, 206, 73, 219, 118, 154, 181, 196, 87, 249, 16, 48, 80, 240, 11, 29, 39, 105, 187, 214, 97, 163, 254, 25, 43, 125, 135, 146, 173, 236, 47, 113, 147, 174, 233, 32, 96, 160, 251, 22, 58, 78, 210, 109, 183, 194, 93, 231, 50, 86, 250, 21, 63, 65, 195, 94, 226, 61, 71, 201, 64, 192, 91, 237, 44, 116, 156, 191, 218, 117, 159, 186, 213, 100, 172, 239, 42, 126, 130, 157, 188, 223, 122, 142, 137, 128, 155, 182, 193, 88, 232, 35, 101, 175, 234, 37, 111, 177, 200, 67, 197, 84, 252, 31, 33, 99, 165, 244, 7, 9, 27, 45, 119, 153, 176, 203, 70, 202, 69, 207, 74, 222, 121, 139, 134, 145, 168, 227, 62, 66, 198, 81, 243, 14, 18, 54, 90, 238, 41, 123, 141, 140, 143, 138, 133, 148, 167, 242, 13, 23, 57, 75, 221, 124, 132, 151, 162, 253, 28, 36, 108, 180, 199, 82, 246, 1]
theorem pwl_step : ∀ n : Fin 255, gl pwl (n.val + 1) = mul (gl pwl n.val) 3 := by decide +kernel
theorem pw3_l : ∀ k, k ≤ 255 → pw3R k = gl pwl k
  | 0, _ => by decide
  | k + 1, h => by
    have := pwl_step ⟨k, by omega⟩
    rw [pw3R, mulR_3, pw3_l k (by omega), this]
theorem gv_pwV (k : Nat) (h : k ≤ 255) : gv pwV k = gl pwl k := by rw [pwV, gv_ofFn _ _ (by omega)]; exact pw3_l k h
def tbL : Nat → List UInt8
  | 0 => (List.replicate 256 0).set 0 (aff 0)
  | k + 1 => (tbL k).set (gl pwl k).toNat (aff (gl pwl (255 - k)))
theorem tl_set {n : Nat} (v : V8 n) (k : Nat) (x : UInt8) : (v.setIfInBounds k x).toList = v.toList.set k x := by simp [Vector.toList, Vector.toArray_setIfInBounds]
theorem tl_rep (n : Nat) : (Vector.replicate n 0 : V8 n).toList = List.replicate n 0 := by simp
theorem tb_l : ∀ k, k ≤ 255 → (tbR k).toList = tbL k
  | 0, _ => by rw [tbR, tbL, afR_aff, tl_set, tl_rep]
  | k + 1, h => by
    rw [tbR, tbL, afR_aff, gv_pwV _ (by omega), gv_pwV _ (by omega), ← tb_l k (by omega), tl_set]
theorem tbL_sbl : tbL 255 = sbl := by decide +kernel
theorem tbR_sbox : tbR 255 = sboxV := by
  apply v_ext; intro i hi
  have h1 : gv (tbR 255) i = gl (tbR 255).toList i := (gl_toList _ _).symm
  rw [h1, tb_l 255 (by omega), tbL_sbl, sboxV_get i hi]
  exact (sbox_lit ⟨i, hi⟩).symm
/-! the inverse table -/
def trR (t : V8 256) : Nat → V8 256
  | 0 => Vector.replicate 256 0
  | k + 1 => (trR t k).setIfInBounds (gv t k).toNat (toU8 (k : Int))
theorem trR_get (a : UInt8) : ∀ k, k ≤ 256 → a.toNat < k → gv (trR sboxV k) (sbox a).toNat = a
  | 0, _, h => by omega
  | k + 1, hk, h => by
    rw [trR, gv_setE _ _ _ _ (sbox a).toNat_lt, sboxV_get k (by omega)]
    by_cases e : k = a.toNat
    · subst e; rw [if_pos (by simp), toU8_nat]; simp
    · rw [if_neg (fun h' => ?_)]
      · exact trR_get a k (by omega) (by omega)
      · have h2 := sbox_inj (UInt8.toNat_inj.1 h')
        apply e; rw [← h2]; simp [UInt8.toNat_ofNat']; omega
theorem sbox_sur (x : UInt8) : ∃ a, sbox a = x := by
  have h : ∀ n : Fin 256, gl sbl (gl ibl n.val).toNat = UInt8.ofNat n.val := by decide +kernel
  refine ⟨gl ibl x.toNat, ?_⟩
  have h1 := h ⟨x.toNat, x.toNat_lt⟩
  have h2 := sbox_lit ⟨(gl ibl x.toNat).toNat, (gl ibl x.toNat).toNat_lt⟩
  simp only [UInt8.ofNat_toNat] at h1 h2
  rw [h2, h1]
theorem trR_back (x : UInt8) : gv (trR sboxV 256) x.toNat = back x := by
  obtain ⟨a, rfl⟩ := sbox_sur x
  rw [trR_get a 256 (by omega) a.toNat_lt, back_sbox]

/-! the keys -/
def wdIn (w : V8 176) (t : V8 4) (i : Nat) : Nat → V8 176
  | 0 => w
  | k + 1 => (wdIn w t i k).setIfInBounds (i * 4 + k) (gv (wdIn w t i k) ((i - 4) * 4 + k) ^^^ gv t k)
def wdA (t : V8 4) : V8 4 := #v[gv sboxV (gv t 1).toNat, gv sboxV (gv t 2).toNat, gv sboxV (gv t 3).toNat, gv sboxV (gv t 0).toNat]
def wdT (w : V8 176) (i : Nat) : V8 4 :=
  if i % 4 = 0 then (wdA (seg8 4 w ((i - 1) * 4))).setIfInBounds 0 (gv (wdA (seg8 4 w ((i - 1) * 4))) 0 ^^^ pwR 2 (i / 4 - 1)) else seg8 4 w ((i - 1) * 4)
def wdS (key : V8 16) : Nat → V8 176
  | 0 => Vector.replicate 176 0
  | i + 1 => if i < 4 then put8 (wdS key i) (i * 4) (#v[gv key (4 * i), gv key (4 * i + 1), gv key (4 * i + 2), gv key (4 * i + 3)] : V8 4) else wdIn (wdS key i) (wdT (wdS key i) i) i 4
theorem wd_lo {key : V8 16} {i : Nat} (h : i < 4) : wdS key (i + 1) = put8 (wdS key i) (i * 4) (#v[gv key (4 * i), gv key (4 * i + 1), gv key (4 * i + 2), gv key (4 * i + 3)] : V8 4) := by rw [wdS, if_pos h]
theorem wd_0 {key : V8 16} {i : Nat} (h : ¬ i < 4) (h4 : i % 4 = 0) : wdS key (i + 1) = wdIn (wdS key i) ((wdA (seg8 4 (wdS key i) ((i - 1) * 4))).setIfInBounds 0 (gv (wdA (seg8 4 (wdS key i) ((i - 1) * 4))) 0 ^^^ pwR 2 (i / 4 - 1))) i 4 := by rw [wdS, if_neg h, wdT, if_pos h4]
theorem wd_1 {key : V8 16} {i : Nat} (h : ¬ i < 4) (h4 : ¬ i % 4 = 0) : wdS key (i + 1) = wdIn (wdS key i) (seg8 4 (wdS key i) ((i - 1) * 4)) i 4 := by rw [wdS, if_neg h, wdT, if_neg h4]

/-! grids: row i / 4, column i % 4 -/
def gfill (f : Nat → UInt8) (z : V8 16) (c r : Nat) : V8 16 := Vector.ofFn fun i => if i.val % 4 < c ∨ (i.val % 4 = c ∧ i.val / 4 < r) then f i.val else gv z i.val
theorem gfill_0 (f : Nat → UInt8) (z : V8 16) : gfill f z 0 0 = z := by
  apply v_ext; intro i hi
  rw [gfill, gv_ofFn _ _ hi, if_neg (by simp)]
theorem gfill_set (f : Nat → UInt8) (z : V8 16) {c r : Nat} (hc : c < 4) (hr : r < 4) : (gfill f z c r).setIfInBounds (r * 4 + c) (f (r * 4 + c)) = gfill f z c (r + 1) := by
  apply v_ext; intro i hi
  rw [gv_setE _ _ _ _ hi, gfill, gfill, gv_ofFn _ _ hi, gv_ofFn _ _ hi]
  by_cases e : r * 4 + c = i
  · subst e; rw [if_pos rfl, if_pos (by simp only []; omega)]
  · rw [if_neg e]
    have : (i % 4 < c ∨ (i % 4 = c ∧ i / 4 < r)) ↔ (i % 4 < c ∨ (i % 4 = c ∧ i / 4 < r + 1)) := by omega
    simp only [this]
theorem gfill_next (f : Nat → UInt8) (z : V8 16) (c : Nat) : gfill f z c 4 = gfill f z (c + 1) 0 := by
  apply v_ext; intro i hi
  rw [gfill, gfill, gv_ofFn _ _ hi, gv_ofFn _ _ hi]
  have : (i % 4 < c ∨ (i % 4 = c ∧ i / 4 < 4)) ↔ (i % 4 < c + 1 ∨ (i % 4 = c + 1 ∧ i / 4 < 0)) := by omega
  simp only [this]
theorem gfill_end (f : Nat → UInt8) (z : V8 16) : gfill f z 4 0 = Vector.ofFn fun i => f i.val := by
  apply v_ext; intro i hi
  rw [gfill, gv_ofFn _ _ hi, gv_ofFn _ _ hi, if_pos (by simp only []; omega)]
theorem gfill_of (f : Nat → UInt8) (z : V8 16) {i : Nat} (hi : i < 16) : (gfill f z (i / 4) (i % 4)).setIfInBounds (i % 4 * 4 + i / 4) (f (i % 4 * 4 + i / 4)) = gfill f z ((i + 1) / 4) ((i + 1) % 4) := by
  rw [gfill_set f z (by omega) (by omega)]
  by_cases h : i % 4 = 3
  · have e1 : (i + 1) / 4 = i / 4 + 1 := by omega
    have e2 : (i + 1) % 4 = 0 := by omega
    rw [e1, e2, h, gfill_next]
  · have e1 : (i + 1) / 4 = i / 4 := by omega
    have e2 : (i + 1) % 4 = i % 4 + 1 := by omega
    rw [e1, e2]
def ofGf (b : V8 16) (i : Nat) : UInt8 := gv b (4 * (i % 4) + i / 4)
def ofG (b : V8 16) : V8 16 := Vector.ofFn fun i => ofGf b i.val
def blGf (g : V8 16) (i : Nat) : UInt8 := gv g (i % 4 * 4 + i / 4)
def blG (g : V8 16) : V8 16 := Vector.ofFn fun i => blGf g i.val
def subGf (g : V8 16) (t : V8 256) (i : Nat) : UInt8 := gv t (gv g i).toNat
def subG (g : V8 16) (t : V8 256) : V8 16 := Vector.ofFn fun i => subGf g t i.val
def mixGf (g : V8 16) (i : Nat) : UInt8 := mulR 2 (gv g (i / 4 * 4 + i % 4)) ^^^ mulR 3 (gv g ((i / 4 + 1) % 4 * 4 + i % 4)) ^^^ gv g ((i / 4 + 2) % 4 * 4 + i % 4) ^^^ gv g ((i / 4 + 3) % 4 * 4 + i % 4)
def mixG (g : V8 16) : V8 16 := Vector.ofFn fun i => mixGf g i.val
def unGf (g : V8 16) (i : Nat) : UInt8 := mulR 14 (gv g (i / 4 * 4 + i % 4)) ^^^ mulR 11 (gv g ((i / 4 + 1) % 4 * 4 + i % 4)) ^^^ mulR 13 (gv g ((i / 4 + 2) % 4 * 4 + i % 4)) ^^^ mulR 9 (gv g ((i / 4 + 3) % 4 * 4 + i % 4))
def unG (g : V8 16) : V8 16 := Vector.ofFn fun i => unGf g i.val
def addGf (g k : V8 16) (i : Nat) : UInt8 := gv g i ^^^ gv (ofG k) i
def addG (g k : V8 16) : V8 16 := Vector.ofFn fun i => addGf g k i.val
def shGf (g : V8 16) (i : Nat) : UInt8 := gv g (i / 4 * 4 + (i % 4 + i / 4) % 4)
def shG (g : V8 16) : V8 16 := Vector.ofFn fun i => shGf g i.val
def shS (g : V8 16) (r n : Nat) : V8 16 := Vector.ofFn fun i => if i.val / 4 < r then shGf g i.val else if i.val / 4 = r then gv g (i.val / 4 * 4 + (i.val % 4 + n) % 4) else gv g i.val
theorem shS_10 (g : V8 16) : shS g 1 0 = g := by
  apply v_ext; intro i hi
  rw [shS, gv_ofFn _ _ hi]; simp only []
  split
  · rw [shGf]; exact congrArg (gv g) (by omega)
  · split
    · exact congrArg (gv g) (by omega)
    · rfl
theorem shS_set (g : V8 16) {r n : Nat} (hr : r < 4) (h1 : 1 ≤ r) : put8 (shS g r n) (r * 4) (#v[gv (shS g r n) (r * 4 + 1), gv (shS g r n) (r * 4 + 2), gv (shS g r n) (r * 4 + 3), gv (shS g r n) (r * 4)] : V8 4) = shS g r (n + 1) := by
  have get : ∀ q, q < 4 → gv (shS g r n) (r * 4 + q) = gv g (r * 4 + (q + n) % 4) := by
    intro q hq
    have e1 : (r * 4 + q) / 4 = r := by omega
    have e2 : (r * 4 + q) % 4 = q := by omega
    rw [shS, gv_ofFn _ _ (by omega)]; simp only [e1, e2]
    rw [if_neg (by omega), if_pos trivial]
  have g0 := get 0 (by omega)
  rw [Nat.add_zero] at g0
  rw [get 1 (by omega), get 2 (by omega), get 3 (by omega), g0]
  apply v_ext; intro i hi
  rw [gv_put8 _ _ _ _ hi]
  by_cases h : i / 4 = r
  · rw [if_pos (by omega), shS, gv_ofFn _ _ hi]; simp only []
    rw [if_neg (by omega), if_pos h, h]
    have h4 : i - r * 4 = 0 ∨ i - r * 4 = 1 ∨ i - r * 4 = 2 ∨ i - r * 4 = 3 := by omega
    have e : i % 4 = i - r * 4 := by omega
    rw [e]
    have s0 : ∀ a b c d : UInt8, gv (#v[a, b, c, d] : V8 4) 0 = a := fun _ _ _ _ => rfl
    have s1 : ∀ a b c d : UInt8, gv (#v[a, b, c, d] : V8 4) 1 = b := fun _ _ _ _ => rfl
    have s2 : ∀ a b c d : UInt8, gv (#v[a, b, c, d] : V8 4) 2 = c := fun _ _ _ _ => rfl
    have s3 : ∀ a b c d : UInt8, gv (#v[a, b, c, d] : V8 4) 3 = d := fun _ _ _ _ => rfl
    rcases h4 with h' | h' | h' | h' <;> rw [h']
    · rw [s0]; exact congrArg (gv g) (by omega)
    · rw [s1]; exact congrArg (gv g) (by omega)
    · rw [s2]; exact congrArg (gv g) (by omega)
    · rw [s3]; exact congrArg (gv g) (by omega)
  · rw [if_neg (by omega), shS, shS, gv_ofFn _ _ hi, gv_ofFn _ _ hi]; simp only []
    split
    · rfl
    · simp only [if_neg h]
theorem shS_next (g : V8 16) (r : Nat) : shS g r r = shS g (r + 1) 0 := by
  apply v_ext; intro i hi
  rw [shS, shS, gv_ofFn _ _ hi, gv_ofFn _ _ hi]; simp only []
  by_cases h : i / 4 < r
  · rw [if_pos h, if_pos (by omega)]
  · rw [if_neg h]
    by_cases h2 : i / 4 = r
    · rw [if_pos h2, if_pos (by omega), shGf, h2]
    · rw [if_neg h2, if_neg (by omega)]
      split
      · exact congrArg (gv g) (by omega)
      · rfl
theorem shS_end (g : V8 16) : shS g 4 0 = shG g := by
  apply v_ext; intro i hi
  rw [shS, shG, gv_ofFn _ _ hi, gv_ofFn _ _ hi, if_pos (by simp only []; omega)]
/-- the state of the reference's encryption -/
def enG (key b : V8 16) : Nat → V8 16
  | 0 => addG (ofG b) (seg8 16 (expand key) 0)
  | r + 1 => addG (if r + 1 < 10 then mixG (shG (subG (enG key b r) sboxV)) else shG (subG (enG key b r) sboxV)) (seg8 16 (expand key) ((r + 1) * 16))
theorem en_lo {key b : V8 16} {r : Nat} (h : r + 1 < 10) : enG key b (r + 1) = addG (mixG (shG (subG (enG key b r) sboxV))) (seg8 16 (expand key) ((r + 1) * 16)) := by rw [enG, if_pos h]
theorem en_hi {key b : V8 16} {r : Nat} (h : ¬ r + 1 < 10) : enG key b (r + 1) = addG (shG (subG (enG key b r) sboxV)) (seg8 16 (expand key) ((r + 1) * 16)) := by rw [enG, if_neg h]
def deG (key b : V8 16) : Nat → V8 16
  | 0 => ofG b
  | j + 1 => subG (shG (shG (shG (if 10 - j < 10 then unG (addG (deG key b j) (seg8 16 (expand key) ((10 - j) * 16))) else addG (deG key b j) (seg8 16 (expand key) ((10 - j) * 16)))))) (trR sboxV 256)
theorem de_lo {key b : V8 16} {j : Nat} (h : 10 - j < 10) : deG key b (j + 1) = subG (shG (shG (shG (unG (addG (deG key b j) (seg8 16 (expand key) ((10 - j) * 16))))))) (trR sboxV 256) := by rw [deG, if_pos h]
theorem de_hi {key b : V8 16} {j : Nat} (h : ¬ 10 - j < 10) : deG key b (j + 1) = subG (shG (shG (shG (addG (deG key b j) (seg8 16 (expand key) ((10 - j) * 16)))))) (trR sboxV 256) := by rw [deG, if_neg h]
def encG (key b : V8 16) : V8 16 := blG (enG key b 10)
def decG (key b : V8 16) : V8 16 := blG (addG (deG key b 10) (seg8 16 (expand key) 0))
end Go.X

/- The reference's keys and block cipher are the program's: plain Lean. -/
namespace Go.X
open Go

/-! the program's keys, byte by byte -/
theorem gv_expandL (key : V8 16) (r i : Nat) (hi : i < 16) : ∀ m, r ≤ m → m ≤ 10 → gv (expandL key m) (r * 16 + i) = gv (expandL key r) (r * 16 + i)
  | 0, h, _ => by have : r = 0 := by omega
                  subst this; rfl
  | m + 1, h, hm => by
    by_cases e : r = m + 1
    · subst e; rfl
    · rw [expandL, gv_put8 _ _ _ _ (by omega), if_neg (by omega)]
      exact gv_expandL key r i hi m (by omega) (by omega)
theorem rk_get (key : V8 16) (r i : Nat) (hr : r ≤ 10) (hi : i < 16) : gv (rk key r) i = gv (expandL key r) (r * 16 + i) := by
  rw [rk, seg8, gv_ofFn _ _ hi]; exact gv_expandL key r i hi 10 hr (by omega)
theorem rk_0 (key : V8 16) : rk key 0 = key := by
  apply v_ext; intro i hi
  rw [rk_get key 0 i (by omega) hi, expandL, gv_put8 _ _ _ _ (by omega), if_pos (by omega)]; simp
theorem rk_s (key : V8 16) (r : Nat) (hr : r < 10) : rk key (r + 1) = nextK r (rk key r) := by
  have e : seg8 16 (expandL key r) (r * 16) = rk key r := by
    apply v_ext; intro i hi
    rw [seg8, gv_ofFn _ _ hi, rk_get key r i (by omega) hi]
  apply v_ext; intro i hi
  rw [rk_get key (r + 1) i (by omega) hi, expandL, gv_put8 _ _ _ _ (by omega), if_pos (by omega), e]
  congr 1; omega
theorem gw_setE {n : Nat} (v : V32 n) (k i : Nat) (x : UInt32) (h : i < n) : gw (v.setIfInBounds k x) i = if k = i then x else gw v i := by
  rw [gw_eq _ _ h, gw_eq _ _ h, Vector.getElem_setIfInBounds h]
def acc (l : V32 4) (t : UInt32) : Nat → UInt32
  | 0 => gw l 0 ^^^ t
  | c + 1 => gw l (c + 1) ^^^ acc l t c
theorem fwdL_get (l : V32 4) (t : UInt32) : ∀ k, k ≤ 4 → (∀ c, c < 4 → gw (fwdL l t k).1 c = if c < k then acc l t c else gw l c) ∧ (fwdL l t k).2 = if k = 0 then t else acc l t (k - 1)
  | 0, _ => ⟨fun c hc => by rw [if_neg (by omega)]; rfl, by rw [if_pos rfl]; rfl⟩
  | k + 1, h => by
    obtain ⟨h1, h2⟩ := fwdL_get l t k (by omega)
    have e : gw (fwdL l t k).1 k ^^^ (fwdL l t k).2 = acc l t k := by
      rw [h1 k (by omega), if_neg (by omega), h2]
      cases k with
      | zero => rw [if_pos rfl]; rfl
      | succ k => rw [if_neg (by omega)]; rfl
    refine ⟨fun c hc => ?_, ?_⟩
    · simp only [fwdL]
      rw [gw_setE _ _ _ _ hc, e]
      by_cases hk : k = c
      · subst hk; rw [if_pos rfl, if_pos (by omega)]
      · rw [if_neg hk, h1 c hc]
        by_cases hc2 : c < k
        · rw [if_pos hc2, if_pos (by omega)]
        · rw [if_neg hc2, if_neg (by omega)]
    · simp only [fwdL]; rw [e, if_neg (by omega)]; rfl
theorem nextK_get (r : Nat) (b : V8 16) (c j : Nat) (hc : c < 4) (hj : j < 4) : gv (nextK r b) (4 * c + j) = byt (acc (wds b) (turned (gw (wds b) 3) (r + 1)) c) j := by
  have e1 : (4 * c + j) / 4 = c := by omega
  have e2 : (4 * c + j) % 4 = j := by omega
  rw [nextK, unw, gv_ofFn _ _ (by omega)]
  simp only [unwf, e1, e2, fwd]
  rw [(fwdL_get _ _ 4 (by omega)).1 c hc, if_pos hc]
/-- the bytes of a word whose bytes have gone through the table -/
theorem sh8_nat (w : UInt32) : (shl32 w 8).toNat = w.toNat % 2 ^ 24 * 2 ^ 8 := by
  simp only [shl32, UInt32.toNat_ofNat']; omega
theorem byt_app (w : UInt32) (x : UInt8) : (∀ r, r < 3 → byt (shl32 w 8 ||| toU32 (x.toNat : Int)) r = byt w (r + 1)) ∧ byt (shl32 w 8 ||| toU32 (x.toNat : Int)) 3 = x := by
  have hx := x.toNat_lt
  obtain ⟨a, b, c, d, ha, hb, hc, hd, hw⟩ := four w.toNat w.toNat_lt
  have h1 := four_b ha hb hc hd hw
  have e0 : (16777216 * a + 65536 * b + 256 * c + d) % 2 ^ 24 = 65536 * b + 256 * c + d := by omega
  have h2 : (shl32 w 8 ||| toU32 (x.toNat : Int)).toNat = 16777216 * b + 65536 * c + 256 * d + x.toNat := by
    rw [UInt32.toNat_or, sh8_nat, u8n, or_add _ _ 8 (by omega), hw, e0]; omega
  have h3 := four_b hb hc hd hx h2
  refine ⟨fun r hr => ?_, ?_⟩
  · have h4 : r = 0 ∨ r = 1 ∨ r = 2 := by omega
    apply UInt8.toNat_inj.1
    rcases h4 with rfl | rfl | rfl
    · rw [h3.1, h1.2.1]
    · rw [h3.2.1, h1.2.2.1]
    · rw [h3.2.2.1, h1.2.2.2]
  · apply UInt8.toNat_inj.1; exact h3.2.2.2
theorem byt_sword (w : UInt32) (r : Nat) (hr : r < 4) : byt (sword w) r = sbox (byt w r) := by
  have s1 := byt_app (swordL w 0) (sbox (byt w 0))
  have s2 := byt_app (swordL w 1) (sbox (byt w 1))
  have s3 := byt_app (swordL w 2) (sbox (byt w 2))
  have s4 := byt_app (swordL w 3) (sbox (byt w 3))
  have h4 : r = 0 ∨ r = 1 ∨ r = 2 ∨ r = 3 := by omega
  show byt (swordL w 4) r = _
  rcases h4 with rfl | rfl | rfl | rfl
  · exact ((s4.1 0 (by omega)).trans (s3.1 1 (by omega))).trans ((s2.1 2 (by omega)).trans s1.2)
  · exact (s4.1 1 (by omega)).trans ((s3.1 2 (by omega)).trans s2.2)
  · exact (s4.1 2 (by omega)).trans s3.2
  · exact s4.2
theorem byt_rotl8 (w : UInt32) (r : Nat) (hr : r < 4) : byt (rotl8 w) r = byt w ((r + 1) % 4) := by
  have e : rotl8 w = rotr w 3 := by
    rw [rotl8, rotr]; exact UInt32.or_comm _ _
  rw [e, byt_rotr w 3 r (by omega) (by omega) hr]; congr 1
theorem byt_shl24 (x : UInt8) (r : Nat) (hr : r < 4) : byt (shl32 (toU32 (x.toNat : Int)) 24) r = if r = 0 then x else 0 := by
  have hx := x.toNat_lt
  have h2 : (shl32 (toU32 (x.toNat : Int)) 24).toNat = 16777216 * x.toNat + 65536 * 0 + 256 * 0 + 0 := by rw [shl_nat _ _ (by omega)]; omega
  have h3 := four_b hx (show 0 < 256 by omega) (show 0 < 256 by omega) (show 0 < 256 by omega) h2
  have h4 : r = 0 ∨ r = 1 ∨ r = 2 ∨ r = 3 := by omega
  apply UInt8.toNat_inj.1
  rcases h4 with rfl | rfl | rfl | rfl
  · rw [h3.1]; rfl
  · rw [h3.2.1]; rfl
  · rw [h3.2.2.1]; rfl
  · rw [h3.2.2.2]; rfl
theorem byt_turned (w : UInt32) (r j : Nat) (hj : j < 4) : byt (turned w (r + 1)) j = sbox (byt w ((j + 1) % 4)) ^^^ (if j = 0 then pow 2 r else 0) := by
  rw [turned, byt_xor, byt_sword _ _ hj, byt_rotl8 _ _ hj, byt_shl24 _ _ hj]; rfl
theorem pw2 : ∀ r : Fin 10, pwR 2 r.val = pow 2 r.val := by decide +kernel

/-! the reference's keys are the program's -/
theorem wdIn_get (w : V8 176) (t : V8 4) (i : Nat) (hi : i < 44) (h4i : 4 ≤ i) : ∀ k, k ≤ 4 → ∀ x, x < 176 → gv (wdIn w t i k) x = if i * 4 ≤ x ∧ x < i * 4 + k then gv w (x - 16) ^^^ gv t (x - i * 4) else gv w x
  | 0, _, x, hx => by rw [if_neg (by omega)]; rfl
  | k + 1, h, x, hx => by
    have ih := wdIn_get w t i hi h4i k (by omega)
    rw [wdIn, gv_setE _ _ _ _ hx]
    by_cases e : i * 4 + k = x
    · subst e
      rw [if_pos rfl, if_pos (by omega), ih ((i - 4) * 4 + k) (by omega)]
      rw [if_neg (by omega)]
      have e1 : (i - 4) * 4 + k = i * 4 + k - 16 := by omega
      have e2 : i * 4 + k - i * 4 = k := by omega
      rw [e1, e2]
    · rw [if_neg e, ih x hx]
      by_cases h2 : i * 4 ≤ x ∧ x < i * 4 + k
      · rw [if_pos h2, if_pos (by omega)]
      · rw [if_neg h2, if_neg (by omega)]
theorem gv_v4 (a b c d : UInt8) (j : Nat) (hj : j < 4) : gv (#v[a, b, c, d] : V8 4) j = if j = 0 then a else if j = 1 then b else if j = 2 then c else d := by
  have h4 : j = 0 ∨ j = 1 ∨ j = 2 ∨ j = 3 := by omega
  rcases h4 with rfl | rfl | rfl | rfl <;> rfl
theorem wd_rk (key : V8 16) : ∀ n, n ≤ 44 → ∀ i j, i < n → j < 4 → gv (wdS key n) (i * 4 + j) = gv (rk key (i / 4)) (4 * (i % 4) + j)
  | 0, _, i, j, h, _ => by omega
  | n + 1, hn, i, j, hi, hj => by
    have ih := wd_rk key n (by omega)
    by_cases e : i = n
    · subst e
      by_cases h4 : i < 4
      · rw [wd_lo h4, gv_put8 _ _ _ _ (by omega), if_pos (by omega)]
        have e1 : i * 4 + j - i * 4 = j := by omega
        have e2 : i / 4 = 0 := by omega
        have e3 : i % 4 = i := by omega
        rw [e1, e2, e3, rk_0, gv_v4 _ _ _ _ _ hj]
        have h4 : j = 0 ∨ j = 1 ∨ j = 2 ∨ j = 3 := by omega
        rcases h4 with rfl | rfl | rfl | rfl <;> rfl
      · obtain ⟨r, hr⟩ : ∃ r, i / 4 = r + 1 := ⟨i / 4 - 1, by omega⟩
        have p16 : i * 4 + j - 16 = (i - 4) * 4 + j := by omega
        have q16 := ih (i - 4) j (by omega) hj
        have e5 : (i - 4) / 4 = r := by omega
        have e6 : (i - 4) % 4 = i % 4 := by omega
        rw [e5, e6] at q16
        have pj : i * 4 + j - i * 4 = j := by omega
        by_cases h0 : i % 4 = 0
        · rw [wd_0 h4 h0, wdIn_get _ _ _ (by omega) (by omega) 4 (by omega) _ (by omega), if_pos (by omega), p16, pj, q16, hr, rk_s _ _ (by omega), nextK_get _ _ _ _ (by omega) hj, h0, Nat.add_sub_cancel]
          simp only [acc]
          rw [byt_xor, byt_wds _ _ _ (by omega) hj, byt_turned _ _ _ hj]
          congr 1
          have tt : ∀ q, q < 4 → gv (seg8 4 (wdS key i) ((i - 1) * 4)) q = byt (gw (wds (rk key r)) 3) q := by
            intro q hq
            have e7 : (i - 1) / 4 = r := by omega
            have e8 : (i - 1) % 4 = 3 := by omega
            rw [seg8, gv_ofFn _ _ hq, ih (i - 1) q (by omega) hq, e7, e8, byt_wds _ _ _ (by omega) hq]
          have hA : ∀ q, q < 4 → gv (wdA (seg8 4 (wdS key i) ((i - 1) * 4))) q = sbox (byt (gw (wds (rk key r)) 3) ((q + 1) % 4)) := by
            intro q hq
            rw [wdA, gv_v4 _ _ _ _ _ hq]
            have h4 : q = 0 ∨ q = 1 ∨ q = 2 ∨ q = 3 := by omega
            rcases h4 with rfl | rfl | rfl | rfl
            · rw [if_pos rfl, tt 1 (by omega), gv_sbox]
            · rw [if_neg (by omega), if_pos rfl, tt 2 (by omega), gv_sbox]
            · rw [if_neg (by omega), if_neg (by omega), if_pos rfl, tt 3 (by omega), gv_sbox]
            · rw [if_neg (by omega), if_neg (by omega), if_neg (by omega), tt 0 (by omega), gv_sbox]
          rw [gv_setE _ _ _ _ hj]
          by_cases hj0 : j = 0
          · subst hj0
            have := pw2 ⟨r, by omega⟩
            simp only [] at this
            rw [if_pos rfl, hA 0 (by omega), if_pos rfl, this]
          · rw [if_neg (fun h => hj0 h.symm), hA j hj, if_neg hj0, UInt8.xor_zero]
        · obtain ⟨c, hc⟩ : ∃ c, i % 4 = c + 1 := ⟨i % 4 - 1, by omega⟩
          have e7 : (i - 1) / 4 = r + 1 := by omega
          have e8 : (i - 1) % 4 = c := by omega
          have hp := ih (i - 1) j (by omega) hj
          rw [e7, e8] at hp
          rw [wd_1 h4 h0, wdIn_get _ _ _ (by omega) (by omega) 4 (by omega) _ (by omega), if_pos (by omega), p16, pj, q16, seg8, gv_ofFn _ _ hj, hp]
          rw [hr, rk_s _ _ (by omega), nextK_get _ _ _ _ (by omega) hj, hc, nextK_get _ _ _ _ (by omega) hj]
          simp only [acc]
          rw [byt_xor, byt_wds _ _ _ (by omega) hj]
    · have hlt : i < n := by omega
      rw [← ih i j hlt hj]
      by_cases h4 : n < 4
      · rw [wd_lo h4, gv_put8 _ _ _ _ (by omega), if_neg (by omega)]
      · by_cases h0 : n % 4 = 0
        · rw [wd_0 h4 h0, wdIn_get _ _ _ (by omega) (by omega) 4 (by omega) _ (by omega), if_neg (by omega)]
        · rw [wd_1 h4 h0, wdIn_get _ _ _ (by omega) (by omega) 4 (by omega) _ (by omega), if_neg (by omega)]
theorem wd_expand (key : V8 16) : wdS key 44 = expand key := by
  apply v_ext; intro x hx
  have h := wd_rk key 44 (by omega) (x / 4) (x % 4) (by omega) (by omega)
  have e : x / 4 * 4 + x % 4 = x := by omega
  rw [e] at h
  rw [h, rk, seg8, gv_ofFn _ _ (by omega)]
  exact congrArg (gv (expand key)) (by simp only []; omega)

/-! the reference's block cipher is the program's -/
theorem addG_get (g k : V8 16) (c r : Nat) (hc : c < 4) (hr : r < 4) : gv (addG g k) (r * 4 + c) = gv g (r * 4 + c) ^^^ gv k (4 * c + r) := by
  rw [addG, gv_ofFn _ _ (by omega)]
  simp only [addGf]
  rw [ofG, gv_ofFn _ _ (by omega)]
  simp only [ofGf]
  have e1 : (r * 4 + c) % 4 = c := by omega
  have e2 : (r * 4 + c) / 4 = r := by omega
  rw [e1, e2]
theorem ofG_get (b : V8 16) (c r : Nat) (hc : c < 4) (hr : r < 4) : gv (ofG b) (r * 4 + c) = gv b (4 * c + r) := by
  rw [ofG, gv_ofFn _ _ (by omega)]
  simp only [ofGf]
  have e1 : (r * 4 + c) % 4 = c := by omega
  have e2 : (r * 4 + c) / 4 = r := by omega
  rw [e1, e2]
theorem shG_get (g : V8 16) (c r : Nat) (hc : c < 4) (hr : r < 4) : gv (shG g) (r * 4 + c) = gv g (r * 4 + (c + r) % 4) := by
  rw [shG, gv_ofFn _ _ (by omega)]
  simp only [shGf]
  have e1 : (r * 4 + c) % 4 = c := by omega
  have e2 : (r * 4 + c) / 4 = r := by omega
  rw [e1, e2]
theorem subG_get (g : V8 16) (t : V8 256) (i : Nat) (h : i < 16) : gv (subG g t) i = gv t (gv g i).toNat := by
  rw [subG, gv_ofFn _ _ h]; rfl
theorem mixG_get (g : V8 16) (c r : Nat) (hc : c < 4) (hr : r < 4) : gv (mixG g) (r * 4 + c) = mc r (gv g (0 * 4 + c)) (gv g (1 * 4 + c)) (gv g (2 * 4 + c)) (gv g (3 * 4 + c)) := by
  have e1 : (r * 4 + c) % 4 = c := by omega
  have e2 : (r * 4 + c) / 4 = r := by omega
  rw [mixG, gv_ofFn _ _ (by omega)]
  simp only [mixGf, e1, e2, mulR2, mulR3]
  have h4 : r = 0 ∨ r = 1 ∨ r = 2 ∨ r = 3 := by omega
  rcases h4 with rfl | rfl | rfl | rfl
  · show m2 (gv g (0 * 4 + c)) ^^^ m3 (gv g (1 * 4 + c)) ^^^ gv g (2 * 4 + c) ^^^ gv g (3 * 4 + c) = m2 (gv g (0 * 4 + c)) ^^^ m3 (gv g (1 * 4 + c)) ^^^ gv g (2 * 4 + c) ^^^ gv g (3 * 4 + c)
    rfl
  · show m2 (gv g (1 * 4 + c)) ^^^ m3 (gv g (2 * 4 + c)) ^^^ gv g (3 * 4 + c) ^^^ gv g (0 * 4 + c) = gv g (0 * 4 + c) ^^^ m2 (gv g (1 * 4 + c)) ^^^ m3 (gv g (2 * 4 + c)) ^^^ gv g (3 * 4 + c)
    generalize gv g (0 * 4 + c) = x; generalize m2 (gv g (1 * 4 + c)) = y; generalize m3 (gv g (2 * 4 + c)) = z; generalize gv g (3 * 4 + c) = u
    rw [UInt8.xor_comm _ x]; simp only [UInt8.xor_assoc]
  · show m2 (gv g (2 * 4 + c)) ^^^ m3 (gv g (3 * 4 + c)) ^^^ gv g (0 * 4 + c) ^^^ gv g (1 * 4 + c) = gv g (0 * 4 + c) ^^^ gv g (1 * 4 + c) ^^^ m2 (gv g (2 * 4 + c)) ^^^ m3 (gv g (3 * 4 + c))
    generalize gv g (0 * 4 + c) = x; generalize gv g (1 * 4 + c) = y; generalize m2 (gv g (2 * 4 + c)) = z; generalize m3 (gv g (3 * 4 + c)) = u
    rw [UInt8.xor_assoc (z ^^^ u), UInt8.xor_comm (z ^^^ u)]; simp only [UInt8.xor_assoc]
  · show m2 (gv g (3 * 4 + c)) ^^^ m3 (gv g (0 * 4 + c)) ^^^ gv g (1 * 4 + c) ^^^ gv g (2 * 4 + c) = m3 (gv g (0 * 4 + c)) ^^^ gv g (1 * 4 + c) ^^^ gv g (2 * 4 + c) ^^^ m2 (gv g (3 * 4 + c))
    generalize m3 (gv g (0 * 4 + c)) = x; generalize gv g (1 * 4 + c) = y; generalize gv g (2 * 4 + c) = z; generalize m2 (gv g (3 * 4 + c)) = u
    simp only [UInt8.xor_assoc]; rw [UInt8.xor_comm u]; simp only [UInt8.xor_assoc]
theorem unG_get (g : V8 16) (c r : Nat) (hc : c < 4) (hr : r < 4) : gv (unG g) (r * 4 + c) = imc r (gv g (0 * 4 + c)) (gv g (1 * 4 + c)) (gv g (2 * 4 + c)) (gv g (3 * 4 + c)) := by
  have e1 : (r * 4 + c) % 4 = c := by omega
  have e2 : (r * 4 + c) / 4 = r := by omega
  rw [unG, gv_ofFn _ _ (by omega)]
  simp only [unGf, e1, e2, mulR9, mulR11, mulR13, mulR14]
  generalize hx : gv g (0 * 4 + c) = x; generalize hy : gv g (1 * 4 + c) = y; generalize hz : gv g (2 * 4 + c) = z; generalize hu : gv g (3 * 4 + c) = u
  have h4 : r = 0 ∨ r = 1 ∨ r = 2 ∨ r = 3 := by omega
  rcases h4 with rfl | rfl | rfl | rfl
  · show m14 (gv g (0 * 4 + c)) ^^^ m11 (gv g (1 * 4 + c)) ^^^ m13 (gv g (2 * 4 + c)) ^^^ m9 (gv g (3 * 4 + c)) = _
    rw [hx, hy, hz, hu]; rfl
  · show m14 (gv g (1 * 4 + c)) ^^^ m11 (gv g (2 * 4 + c)) ^^^ m13 (gv g (3 * 4 + c)) ^^^ m9 (gv g (0 * 4 + c)) = m9 x ^^^ m14 y ^^^ m11 z ^^^ m13 u
    rw [hx, hy, hz, hu, UInt8.xor_comm _ (m9 x)]; simp only [UInt8.xor_assoc]
  · show m14 (gv g (2 * 4 + c)) ^^^ m11 (gv g (3 * 4 + c)) ^^^ m13 (gv g (0 * 4 + c)) ^^^ m9 (gv g (1 * 4 + c)) = m13 x ^^^ m9 y ^^^ m14 z ^^^ m11 u
    rw [hx, hy, hz, hu, UInt8.xor_assoc (m14 z ^^^ m11 u), UInt8.xor_comm (m14 z ^^^ m11 u)]; simp only [UInt8.xor_assoc]
  · show m14 (gv g (3 * 4 + c)) ^^^ m11 (gv g (0 * 4 + c)) ^^^ m13 (gv g (1 * 4 + c)) ^^^ m9 (gv g (2 * 4 + c)) = m11 x ^^^ m13 y ^^^ m9 z ^^^ m14 u
    rw [hx, hy, hz, hu]; simp only [UInt8.xor_assoc]; rw [UInt8.xor_comm (m14 u)]; simp only [UInt8.xor_assoc]
theorem seg_rk (key : V8 16) (r : Nat) : seg8 16 (expand key) (r * 16) = rk key r := rfl
theorem sub_sbox (g : V8 16) (i : Nat) (h : i < 16) : gv (subG g sboxV) i = sbox (gv g i) := by rw [subG_get _ _ _ h, gv_sbox]
theorem enG_Se (key b : V8 16) : ∀ n, n ≤ 9 → ∀ c r, c < 4 → r < 4 → gv (enG key b n) (r * 4 + c) = Se key b n c r
  | 0, _, c, r, hc, hr => by
    have e : seg8 16 (expand key) 0 = rk key 0 := by rw [rk, Nat.zero_mul]
    rw [enG, addG_get _ _ _ _ hc hr, ofG_get _ _ _ hc hr, Se_0 _ _ _ _ hc hr, e]
  | n + 1, hn, c, r, hc, hr => by
    have ih := enG_Se key b n (by omega)
    rw [en_lo (by omega), addG_get _ _ _ _ hc hr, mixG_get _ _ _ hc hr, seg_rk, Se_s _ _ _ _ _ (by omega) hc hr, shG_get _ _ _ hc (by omega), shG_get _ _ _ hc (by omega), shG_get _ _ _ hc (by omega), shG_get _ _ _ hc (by omega),
      sub_sbox _ _ (by omega), sub_sbox _ _ (by omega), sub_sbox _ _ (by omega), sub_sbox _ _ (by omega), ih _ 0 (by omega) (by omega), ih _ 1 (by omega) (by omega), ih _ 2 (by omega) (by omega), ih _ 3 (by omega) (by omega), UInt8.xor_comm]
    simp only [Nat.add_zero]
theorem blG_get (g : V8 16) (c r : Nat) (hc : c < 4) (hr : r < 4) : gv (blG g) (4 * c + r) = gv g (r * 4 + c) := by
  rw [blG, gv_ofFn _ _ (by omega)]
  simp only [blGf]
  have e1 : (4 * c + r) % 4 = r := by omega
  have e2 : (4 * c + r) / 4 = c := by omega
  rw [e1, e2]
theorem encG_enc (key b : V8 16) : encG key b = enc key b := by
  apply v_ext; intro i hi
  have ei : 4 * (i / 4) + i % 4 = i := by omega
  have hc : i / 4 < 4 := by omega
  have hr : i % 4 < 4 := by omega
  rw [← ei, encG, blG_get _ _ _ hc hr, enc_get _ _ _ _ hc hr, en_hi (by omega), addG_get _ _ _ _ hc hr, shG_get _ _ _ hc hr, sub_sbox _ _ (by omega), enG_Se key b 9 (by omega) _ _ (by omega) hr, seg_rk]
/-- the states of the program's decryption, byte by byte -/
def Td (key b : V8 16) (n c r : Nat) : UInt8 := By (stL (bkK key 11) bckT 3 b n) c r
theorem Td_0 (key b : V8 16) (c r : Nat) (hc : c < 4) (hr : r < 4) : Td key b 0 c r = gv b (4 * c + r) ^^^ gv (rk key 10) (4 * c + r) := by
  have e : c = (10 - 10) * 4 + c := by omega
  have h := gw_bkK key 10 c hc 11 (by omega) (by omega)
  rw [← e] at h
  have hb : bkB key 10 = rk key 10 := by simp [bkB, rk]
  simp only [Td, By, stL]
  rw [gw_ofFn _ _ hc, byt_xor, byt_wds _ _ _ hc hr]
  simp only []
  rw [h, byt_wds _ _ _ hc hr, hb]
theorem Td_s (key b : V8 16) (n c r : Nat) (hn : n < 9) (hc : c < 4) (hr : r < 4) : Td key b (n + 1) c r = imc r (gv (rk key (9 - n)) (4 * c)) (gv (rk key (9 - n)) (4 * c + 1)) (gv (rk key (9 - n)) (4 * c + 2)) (gv (rk key (9 - n)) (4 * c + 3)) ^^^ imc r (back (Td key b n (c % 4) 0)) (back (Td key b n ((c + 3) % 4) 1)) (back (Td key b n ((c + 6) % 4) 2)) (back (Td key b n ((c + 9) % 4) 3)) := by
  have ek : 10 - (n + 1) = 9 - n := by omega
  have hb : bkB key (9 - n) = unmix (rk key (9 - n)) := by rw [bkB, if_pos (by omega)]; rfl
  rw [Td, stL, By_dec _ _ _ _ _ (by omega) hc hr, ek, hb, unmix_get _ _ _ hc hr]; rfl
theorem sub_back (g : V8 16) (i : Nat) (h : i < 16) : gv (subG g (trR sboxV 256)) i = back (gv g i) := by rw [subG_get _ _ _ h, trR_back]
theorem sh3_get (g : V8 16) (c r : Nat) (hc : c < 4) (hr : r < 4) : gv (shG (shG (shG g))) (r * 4 + c) = gv g (r * 4 + (c + 3 * r) % 4) := by
  rw [shG_get _ _ _ hc hr, shG_get _ _ _ (by omega) hr, shG_get _ _ _ (by omega) hr]
  congr 2; omega
theorem deG_Td (key b : V8 16) : ∀ j, j ≤ 9 → ∀ c r, c < 4 → r < 4 → gv (deG key b (j + 1)) (r * 4 + c) = back (Td key b j ((c + 3 * r) % 4) r)
  | 0, _, c, r, hc, hr => by
    rw [de_hi (by omega), sub_back _ _ (by omega), sh3_get _ _ _ hc hr, addG_get _ _ _ _ (by omega) hr, deG, ofG_get _ _ _ (by omega) hr, seg_rk, Td_0 _ _ _ _ (by omega) hr]
  | j + 1, hj, c, r, hc, hr => by
    have ih := deG_Td key b j (by omega)
    have hc' : (c + 3 * r) % 4 < 4 := by omega
    have ek : 10 - (j + 1) = 9 - j := by omega
    have k0 : 4 * ((c + 3 * r) % 4) + 0 = 4 * ((c + 3 * r) % 4) := rfl
    rw [de_lo (by omega), sub_back _ _ (by omega), sh3_get _ _ _ hc hr, unG_get _ _ _ hc' hr, addG_get _ _ _ 0 hc' (by omega), addG_get _ _ _ 1 hc' (by omega), addG_get _ _ _ 2 hc' (by omega), addG_get _ _ _ 3 hc' (by omega),
      ih _ 0 hc' (by omega), ih _ 1 hc' (by omega), ih _ 2 hc' (by omega), ih _ 3 hc' (by omega), seg_rk, imc_xor, Td_s _ _ _ _ _ (by omega) hc' hr, ek, UInt8.xor_comm]
    rfl
theorem decG_dec (key b : V8 16) : decG key b = dec key b := by
  apply v_ext; intro i hi
  have ei : 4 * (i / 4) + i % 4 = i := by omega
  have hc : i / 4 < 4 := by omega
  have hr : i % 4 < 4 := by omega
  have e0 : seg8 16 (expand key) 0 = rk key 0 := by rw [rk, Nat.zero_mul]
  have h1 : gv (dec key b) i = back (Td key b 9 ((i / 4 + i % 4 * 3) % 4) (i % 4)) ^^^ gv (rk key 0) i := by
    have h := gw_bkK key 0 (i / 4) hc 11 (by omega) (by omega)
    have hb : bkB key 0 = rk key 0 := by simp [bkB, rk]
    rw [dec, runf, gv_ofFn _ _ hi]
    simp only [lastf, pick]
    rw [show 40 + i / 4 = (10 - 0) * 4 + i / 4 by omega, h, byt_wds _ _ _ hc hr, hb, ei]; rfl
  rw [h1]
  have h2 : gv (decG key b) (4 * (i / 4) + i % 4) = back (Td key b 9 ((i / 4 + 3 * (i % 4)) % 4) (i % 4)) ^^^ gv (rk key 0) (4 * (i / 4) + i % 4) := by
    rw [decG, blG_get _ _ _ hc hr, addG_get _ _ _ _ hc hr, deG_Td key b 9 (by omega) _ _ hc hr, e0]
  rw [ei] at h2
  rw [h2, Nat.mul_comm 3]
end Go.X
namespace Go.X
open Go
theorem ofFn_gv {n : Nat} (v : V8 n) : (Vector.ofFn fun i : Fin n => gv v i.val) = v := by
  apply v_ext; intro i hi
  rw [gv_ofFn _ _ hi]
end Go.X
