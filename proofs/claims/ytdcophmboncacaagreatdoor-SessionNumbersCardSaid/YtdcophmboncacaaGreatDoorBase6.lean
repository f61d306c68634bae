/- Part 6 of the ground of this seat's proofs: rules of a calculus of walks, and what the functions of the lower layers compute; no conditions beyond those that each statement bears. -/
import Derived.Test.YtdcophmboncacaaGreatDoorBase5
set_option linter.unusedVariables false
set_option linter.unusedSimpArgs false
set_option linter.unnecessarySimpa false
/- walks -/
namespace Go.Proofs.XS
open Go Go.X Go.Proofs
set_option maxRecDepth 100000 in
set_option maxHeartbeats 1600000 in
theorem sp_open_Decrypt (t c : Nat) (key : V8 16) (nonce : V8 12) (a : Option Addr) (n cap : Nat) (bs : List UInt8) (w0 : World) (hT : TabAt w0 t c key) (hn : bs.length = n) (hN : n ≤ 1000000) (hc : Cel w0 a (c8 bs)) (hcap : n ≤ cap) (hG : Gl 1 w0) : Calls Tryz.prog 121 #[Ptr t 0, .agg (BV nonce), .slice a n cap] w0 (RetS w0 (fun v X => ∃ a' c', v = .tuple #[.slice a' n c', .agg (BV (decC key nonce bs)), .agg (BV (cryO key nonce n))] ∧ Own 1 a' n c' (c8 (decT key nonce bs)) X)) := by
  refine enterM (args := [Ptr t 0, .agg (BV nonce), .slice a n cap]) Tryz.func121 rfl rfl ?_
  refine startw fun w hS => ?_
  obtain ⟨⟨T, hT1⟩, E, hC⟩ := id hT
  refine rg ?_
  refine bx1 hS rfl rfl rfl rfl ?_
  intro b3 w hb3 hS
  refine bxa hS rfl rfl rfl ?_
  intro b4 w hb4 hS
  refine al1 zr30 hS rfl rfl rfl ?_
  intro b6 w hb6 hS
  refine ala zr22 hS rfl rfl ?_
  intro b7 w hb7 hS
  refine ala zr22 hS rfl rfl ?_
  intro b8 w hb8 hS
  refine wq_then ?_
  refine rg ?_
  refine lo 4 sc77 hS rfl rfl rfl rfl rfl ?_
  refine la 3 ag173 hS rfl rfl rfl rfl (BV_size _) ?_
  refine cv cf139 hS rfl rfl rfl rfl rfl (sp_offset_Start (t) (c) (key) (nonce) _ (hT.st hS)) ?_
  intro w hS
  refine sa 0 ag22 hS rfl rfl rfl (BV_one _) rfl (BV_size _) (BV_size _) ?_
  intro w hS
  refine wq_then ?_
  refine rg ?_
  refine mkf rfl rfl rfl ?_
  refine al1 zr241 hS rfl rfl rfl ?_
  intro b9 w hb9 hS
  refine st 0 sz241 hS rfl rfl rfl rfl rfl rfl Nat.zero_lt_one rfl ?_
  intro w hS
  refine wq_then ?_
  refine wc_seq ?_
  refine rg ?_
  refine mv rfl rfl rfl ?_
  refine cs cf141 hS rfl rfl rfl rfl rfl (sp_block_All (a) (n) (cap) _) ?_
  rintro _ _ w ⟨b23, rfl, rfl⟩ hS
  refine wq_then ?_
  refine wc_block ?_
  refine wc_range2 (m := 0) (fun k => I ((k + 1 : Nat) : Int)) (fun k => .agg (BV (blk bs k))) (n / 16) (fun W => W.heap[b23]? = some (.cells #[.slice a n cap] 30) ∧ Cel W a (c8 bs)) (fun k L => ∃ s : Option Addr × Nat × List (Nat × Obj), (Own 1 s.1 (k * 16) s.2.1 (c8 (deT key nonce bs k)) s.2.2) ∧ L = ([(b23, .cells (#[(.slice a n cap)]) 30), (b9, .cells (#[.func (.func 150) #[] #[Ptr b6 0, Ptr b7 0]]) 241), (b8, .cells (BV (crO key nonce k)) 22), (b7, .cells (BV (deC key nonce bs k)) 22), (b6, .cells (#[.slice s.1 (k * 16) s.2.1]) 30), (b4, .cells (BV nonce) 173), (b3, .cells (#[Ptr t 0]) 77)] ++ (s.2.2 ++ []))) rfl cf172 rfl rfl hS ⟨(none, 0, []), Own.nil 1, rfl⟩ ?_ ?_ ?_ ?_
  · exact fun lp J W hJ hY h0 => sp_block_All_1 0 lp b23 _ n cap a bs J hn hN hcap hJ hY W h0
  · exact fun k L' W hL hS => by obtain ⟨s, hinv, rfl⟩ := hL; exact ⟨hS.get 0 rfl, hc.st hS⟩
  · rintro k lp D r _ w hr hp hk ⟨s, hO, rfl⟩ hS
    have hS : St w0 [] ([(lp, .loop r), (D, .deferred (some [])), (b23, .cells (#[(.slice a n cap)]) 30), (b9, .cells (#[.func (.func 150) #[] #[Ptr b6 0, Ptr b7 0]]) 241), (b8, .cells (BV (crO key nonce k)) 22), (b7, .cells (BV (deC key nonce bs k)) 22), (b6, .cells (#[.slice s.1 (k * 16) s.2.1]) 30), (b4, .cells (BV nonce) 173), (b3, .cells (#[Ptr t 0]) 77)] ++ (s.2.2 ++ [])) w := hS
    have hx := toU64_ne (k + 1) (by omega) (by omega)
    refine rgi ?_
    refine wi rfl (asg rfl rfl rfl ?_)
    refine wqi_then ?_
    refine wci_region ?_
    refine wi rfl (ala zr22 hS rfl rfl ?_)
    intro b11 w hb11 hS
    refine wi rfl (sa 0 ag22 hS rfl rfl rfl (BV_one _) rfl (BV_size _) (BV_size _) ?_)
    intro w hS
    refine begin_q 1 hS rfl hr (fun w hS => wk_ci ?_)
    refine wci_block ?_
    refine rgi ?_
    refine wi rfl (lo 9 sc77 hS rfl rfl rfl rfl rfl ?_)
    refine wi rfl (la 5 ag22 hS rfl rfl rfl rfl (BV_size _) ?_)
    refine wi rfl (mv rfl rfl rfl ?_)
    refine wi rfl (cvu64 Tryz.underlying24 ⟨_, Tryz.underlying3⟩ rfl rfl rfl ?_)
    refine wi rfl (cv (v := .agg (BV (crO key nonce (k + 1)))) cf142 hS rfl rfl rfl rfl rfl (sp_offset_Next (t) (c) (key) ((crO key nonce k)) ((toU64 (((k + 1 : Nat) : Int)))) _ (hT.st hS) (by assumption) (hG.st hS)) ?_)
    intro w hS
    refine wi rfl (sa 5 ag22 hS rfl rfl rfl (BV_one _) rfl (BV_size _) (BV_size _) ?_)
    intro w hS
    refine wqi_then ?_
    refine rdi mo (by kernel_rfl) 9 (fun w => St w0 [] ([(b11, .cells (BV (blk bs k)) 22), (lp, .loop { r with state := .busy }), (D, .deferred (some [])), (b23, .cells (#[(.slice a n cap)]) 30), (b9, .cells (#[.func (.func 150) #[] #[Ptr b6 0, Ptr b7 0]]) 241), (b8, .cells (BV (crO key nonce (k + 1))) 22), (b7, .cells (BV (deC key nonce bs k)) 22), (b6, .cells (#[.slice s.1 (k * 16) s.2.1]) 30), (b4, .cells (BV nonce) 173), (b3, .cells (#[Ptr t 0]) 77)] ++ (s.2.2 ++ [])) w) ?_
    have hS := hS.drew
    refine dq 0 rfl (by kernel_rfl) (by kernel_rfl) (by kernel_rfl) rfl rfl (fun w hS => la 5 ag22 hS rfl rfl rfl rfl (BV_size _) ⟨rfl, rfl⟩) hS ?_
    refine dq 1 rfl (by kernel_rfl) (by kernel_rfl) (by kernel_rfl) rfl rfl (fun w hS => lo 9 sc77 hS rfl rfl rfl rfl rfl ⟨rfl, rfl⟩) hS ?_
    refine dq 3 rfl (by kernel_rfl) (by kernel_rfl) (by kernel_rfl) rfl rfl (fun w hS => la 0 ag22 hS rfl rfl rfl rfl (BV_size _) ⟨rfl, rfl⟩) hS ?_
    refine dq 4 rfl (by kernel_rfl) (by kernel_rfl) (by kernel_rfl) rfl rfl (fun w hS => la 5 ag22 hS rfl rfl rfl rfl (BV_size _) ⟨rfl, rfl⟩) hS ?_
    refine dl2 2 8 rfl rfl (by kernel_rfl) ?_ ?_
    · skip
      refine cv cf144 hS rfl rfl rfl rfl rfl (sp_table_Table_Cipher (t) (c) (key) _ (hT.st hS)) ?_
      intro w hS
      refine ⟨fun _ => hS, ?_⟩
      refine dl2 5 8 rfl rfl (by kernel_rfl) ?_ ?_
      · skip
        refine cv cf143 hS rfl rfl rfl rfl rfl (sp_block_Xor ((blk bs k)) ((crO key nonce (k + 1))) _) ?_
        intro w hS
        refine ⟨fun _ => hS, ?_⟩
        refine dl2 6 8 rfl rfl (by kernel_rfl) ?_ ?_
        · skip
          refine cv cf151 hS rfl rfl rfl rfl rfl (sp_fast_Cipher_Decrypt (c) (_) (key) ((xorV (blk bs k) (crO key nonce (k + 1)))) _ (hS.old hC List.not_mem_nil)) ?_
          intro w hS
          refine ⟨fun _ => hS, ?_⟩
          refine dl2 7 8 rfl rfl (by kernel_rfl) ?_ ?_
          · skip
            refine cv (v := .agg (BV (deB key nonce bs k))) cf143 hS rfl rfl rfl rfl rfl (sp_block_Xor ((crO key nonce (k + 1))) ((dec key (xorV (blk bs k) (crO key nonce (k + 1))))) _) ?_
            intro w hS
            refine ⟨fun _ => hS, ?_⟩
            refine dl 8 rfl (by kernel_rfl) ?_
            refine ala zr22 hS rfl rfl ?_
            intro b12 w hb12 hS
            refine ⟨fun _ => hS.tl, ?_⟩
            refine dl 9 rfl (by kernel_rfl) ?_
            refine sa 0 ag22 hS rfl rfl rfl (BV_one _) rfl (BV_size _) (BV_size _) ?_
            intro w hS
            refine ⟨fun h => (by cases h), ?_⟩
            refine de (by kernel_rfl) ?_
            refine wqi_then ?_
            refine wci_draw mo (by kernel_rfl) 3 (fun w => St w0 [] ([(b12, .cells (BV (deB key nonce bs k)) 22), (b11, .cells (BV (blk bs k)) 22), (lp, .loop { r with state := .busy }), (D, .deferred (some [])), (b23, .cells (#[(.slice a n cap)]) 30), (b9, .cells (#[.func (.func 150) #[] #[Ptr b6 0, Ptr b7 0]]) 241), (b8, .cells (BV (crO key nonce (k + 1))) 22), (b7, .cells (BV (deC key nonce bs k)) 22), (b6, .cells (#[.slice s.1 (k * 16) s.2.1]) 30), (b4, .cells (BV nonce) 173), (b3, .cells (#[Ptr t 0]) 77)] ++ (s.2.2 ++ [])) w) ?_
            have hS := hS.drew
            refine dq 0 rfl (by kernel_rfl) (by kernel_rfl) (by kernel_rfl) rfl rfl (fun w hS => lo 5 sc241 hS rfl rfl rfl rfl rfl ⟨rfl, rfl⟩) hS ?_
            refine dq 1 rfl (by kernel_rfl) (by kernel_rfl) (by kernel_rfl) rfl rfl (fun w hS => a_all Tryz.underlying22 ⟨_, sz5⟩ rfl rfl rfl ⟨rfl, rfl⟩) hS ?_
            refine dq 2 rfl (by kernel_rfl) (by kernel_rfl) (by kernel_rfl) rfl rfl (fun w hS => la 0 ag22 hS rfl rfl rfl rfl (BV_size _) ⟨rfl, rfl⟩) hS ?_
            refine dl 3 rfl (by kernel_rfl) ?_
            refine cl cf150 rfl rfl rfl rfl rfl (sp_open_Decrypt_1 (some ⟨b12, 0, none⟩) 16 16 ((deB key nonce bs k).toList) (deB key nonce bs k) (deC key nonce bs k) _ _ _ _ s.1 (k * 16) s.2.1 (deT key nonce bs k) s.2.2 _ Vector.length_toList (by omega) (Cel.bv (hS.get 0 rfl)) (hS.get 8 rfl) (hS.get 7 rfl) hO (fun p hp => (hS.own p (by simp [hp])).2) (St.nd2 (A := [(b12, .cells (BV (deB key nonce bs k)) 22), (b11, .cells (BV (blk bs k)) 22), (lp, .loop { r with state := .busy }), (D, .deferred (some [])), (b23, .cells (#[(.slice a n cap)]) 30), (b9, .cells (#[.func (.func 150) #[] #[Ptr b6 0, Ptr b7 0]]) 241), (b8, .cells (BV (crO key nonce (k + 1))) 22), (b7, .cells (BV (deC key nonce bs k)) 22), (b6, .cells (#[.slice s.1 (k * 16) s.2.1]) 30), (b4, .cells (BV nonce) 173), (b3, .cells (#[Ptr t 0]) 77)]) (R := []) (i := 8) (j := 7) hS rfl rfl)) ?_
            rintro _ w ⟨a42, c42, X42, ⟨v42, rfl⟩, hO42, hS1⟩
            refine ⟨_, rfl, ?_⟩
            have hS : St w0 [] ([(b12, .cells (BV (deB key nonce bs k)) 22), (b11, .cells (BV (blk bs k)) 22), (lp, .loop { r with state := .busy }), (D, .deferred (some [])), (b23, .cells (#[(.slice a n cap)]) 30), (b9, .cells (#[.func (.func 150) #[] #[Ptr b6 0, Ptr b7 0]]) 241), (b8, .cells (BV (crO key nonce (k + 1))) 22), (b7, .cells (BV (xorV (deC key nonce bs k) (deB key nonce bs k))) 22), (b6, .cells (#[.slice a42 ((k * 16) + 16) c42]) 30), (b4, .cells (BV nonce) 173), (b3, .cells (#[Ptr t 0]) 77)] ++ (X42 ++ [])) w := St.call_out2 (A := [(b12, .cells (BV (deB key nonce bs k)) 22), (b11, .cells (BV (blk bs k)) 22), (lp, .loop { r with state := .busy }), (D, .deferred (some [])), (b23, .cells (#[(.slice a n cap)]) 30), (b9, .cells (#[.func (.func 150) #[] #[Ptr b6 0, Ptr b7 0]]) 241), (b8, .cells (BV (crO key nonce (k + 1))) 22), (b7, .cells (BV (deC key nonce bs k)) 22), (b6, .cells (#[.slice s.1 (k * 16) s.2.1]) 30), (b4, .cells (BV nonce) 173), (b3, .cells (#[Ptr t 0]) 77)]) (A2 := [(b12, .cells (BV (deB key nonce bs k)) 22), (b11, .cells (BV (blk bs k)) 22), (lp, .loop { r with state := .busy }), (D, .deferred (some [])), (b23, .cells (#[(.slice a n cap)]) 30), (b9, .cells (#[.func (.func 150) #[] #[Ptr b6 0, Ptr b7 0]]) 241), (b8, .cells (BV (crO key nonce (k + 1))) 22), (b7, .cells (BV (xorV (deC key nonce bs k) (deB key nonce bs k))) 22), (b6, .cells (#[.slice a42 ((k * 16) + 16) c42]) 30), (b4, .cells (BV nonce) 173), (b3, .cells (#[Ptr t 0]) 77)]) (i := 8) (j := 7) hS rfl rfl rfl rfl rfl hS1
            refine ⟨fun h => (by cases h), ?_⟩
            refine de (by kernel_rfl) ?_
            refine q_block_norm ?_
            refine end_q 2 hS rfl hr hp (fun w hS => ?_)
            have e16 : k * 16 + 16 = (k + 1) * 16 := by omega
            rw [e16] at hS hO42
            exact ⟨rfl, _, ⟨(a42, c42, X42), hO42, rfl⟩, hS.tl.tl⟩
          · skip
            refine ala zr22 hS rfl rfl ?_
            intro b12 w hb12 hS
            refine ⟨fun _ => hS.tl, ?_⟩
            refine dl 7 rfl (by kernel_rfl) ?_
            refine cv (v := .agg (BV (deB key nonce bs k))) cf143 hS rfl rfl rfl rfl rfl (sp_block_Xor ((crO key nonce (k + 1))) ((dec key (xorV (blk bs k) (crO key nonce (k + 1))))) _) ?_
            intro w hS
            refine ⟨fun _ => hS.tl, ?_⟩
            refine dl 9 rfl (by kernel_rfl) ?_
            refine sa 0 ag22 hS rfl rfl rfl (BV_one _) rfl (BV_size _) (BV_size _) ?_
            intro w hS
            refine ⟨fun h => (by cases h), ?_⟩
            refine de (by kernel_rfl) ?_
            refine wqi_then ?_
            refine wci_draw mo (by kernel_rfl) 3 (fun w => St w0 [] ([(b12, .cells (BV (deB key nonce bs k)) 22), (b11, .cells (BV (blk bs k)) 22), (lp, .loop { r with state := .busy }), (D, .deferred (some [])), (b23, .cells (#[(.slice a n cap)]) 30), (b9, .cells (#[.func (.func 150) #[] #[Ptr b6 0, Ptr b7 0]]) 241), (b8, .cells (BV (crO key nonce (k + 1))) 22), (b7, .cells (BV (deC key nonce bs k)) 22), (b6, .cells (#[.slice s.1 (k * 16) s.2.1]) 30), (b4, .cells (BV nonce) 173), (b3, .cells (#[Ptr t 0]) 77)] ++ (s.2.2 ++ [])) w) ?_
            have hS := hS.drew
            refine dq 0 rfl (by kernel_rfl) (by kernel_rfl) (by kernel_rfl) rfl rfl (fun w hS => lo 5 sc241 hS rfl rfl rfl rfl rfl ⟨rfl, rfl⟩) hS ?_
            refine dq 1 rfl (by kernel_rfl) (by kernel_rfl) (by kernel_rfl) rfl rfl (fun w hS => a_all Tryz.underlying22 ⟨_, sz5⟩ rfl rfl rfl ⟨rfl, rfl⟩) hS ?_
            refine dq 2 rfl (by kernel_rfl) (by kernel_rfl) (by kernel_rfl) rfl rfl (fun w hS => la 0 ag22 hS rfl rfl rfl rfl (BV_size _) ⟨rfl, rfl⟩) hS ?_
            refine dl 3 rfl (by kernel_rfl) ?_
            refine cl cf150 rfl rfl rfl rfl rfl (sp_open_Decrypt_1 (some ⟨b12, 0, none⟩) 16 16 ((deB key nonce bs k).toList) (deB key nonce bs k) (deC key nonce bs k) _ _ _ _ s.1 (k * 16) s.2.1 (deT key nonce bs k) s.2.2 _ Vector.length_toList (by omega) (Cel.bv (hS.get 0 rfl)) (hS.get 8 rfl) (hS.get 7 rfl) hO (fun p hp => (hS.own p (by simp [hp])).2) (St.nd2 (A := [(b12, .cells (BV (deB key nonce bs k)) 22), (b11, .cells (BV (blk bs k)) 22), (lp, .loop { r with state := .busy }), (D, .deferred (some [])), (b23, .cells (#[(.slice a n cap)]) 30), (b9, .cells (#[.func (.func 150) #[] #[Ptr b6 0, Ptr b7 0]]) 241), (b8, .cells (BV (crO key nonce (k + 1))) 22), (b7, .cells (BV (deC key nonce bs k)) 22), (b6, .cells (#[.slice s.1 (k * 16) s.2.1]) 30), (b4, .cells (BV nonce) 173), (b3, .cells (#[Ptr t 0]) 77)]) (R := []) (i := 8) (j := 7) hS rfl rfl)) ?_
            rintro _ w ⟨a42, c42, X42, ⟨v42, rfl⟩, hO42, hS1⟩
            refine ⟨_, rfl, ?_⟩
            have hS : St w0 [] ([(b12, .cells (BV (deB key nonce bs k)) 22), (b11, .cells (BV (blk bs k)) 22), (lp, .loop { r with state := .busy }), (D, .deferred (some [])), (b23, .cells (#[(.slice a n cap)]) 30), (b9, .cells (#[.func (.func 150) #[] #[Ptr b6 0, Ptr b7 0]]) 241), (b8, .cells (BV (crO key nonce (k + 1))) 22), (b7, .cells (BV (xorV (deC key nonce bs k) (deB key nonce bs k))) 22), (b6, .cells (#[.slice a42 ((k * 16) + 16) c42]) 30), (b4, .cells (BV nonce) 173), (b3, .cells (#[Ptr t 0]) 77)] ++ (X42 ++ [])) w := St.call_out2 (A := [(b12, .cells (BV (deB key nonce bs k)) 22), (b11, .cells (BV (blk bs k)) 22), (lp, .loop { r with state := .busy }), (D, .deferred (some [])), (b23, .cells (#[(.slice a n cap)]) 30), (b9, .cells (#[.func (.func 150) #[] #[Ptr b6 0, Ptr b7 0]]) 241), (b8, .cells (BV (crO key nonce (k + 1))) 22), (b7, .cells (BV (deC key nonce bs k)) 22), (b6, .cells (#[.slice s.1 (k * 16) s.2.1]) 30), (b4, .cells (BV nonce) 173), (b3, .cells (#[Ptr t 0]) 77)]) (A2 := [(b12, .cells (BV (deB key nonce bs k)) 22), (b11, .cells (BV (blk bs k)) 22), (lp, .loop { r with state := .busy }), (D, .deferred (some [])), (b23, .cells (#[(.slice a n cap)]) 30), (b9, .cells (#[.func (.func 150) #[] #[Ptr b6 0, Ptr b7 0]]) 241), (b8, .cells (BV (crO key nonce (k + 1))) 22), (b7, .cells (BV (xorV (deC key nonce bs k) (deB key nonce bs k))) 22), (b6, .cells (#[.slice a42 ((k * 16) + 16) c42]) 30), (b4, .cells (BV nonce) 173), (b3, .cells (#[Ptr t 0]) 77)]) (i := 8) (j := 7) hS rfl rfl rfl rfl rfl hS1
            refine ⟨fun h => (by cases h), ?_⟩
            refine de (by kernel_rfl) ?_
            refine q_block_norm ?_
            refine end_q 2 hS rfl hr hp (fun w hS => ?_)
            have e16 : k * 16 + 16 = (k + 1) * 16 := by omega
            rw [e16] at hS hO42
            exact ⟨rfl, _, ⟨(a42, c42, X42), hO42, rfl⟩, hS.tl.tl⟩
        · skip
          refine ala zr22 hS rfl rfl ?_
          intro b12 w hb12 hS
          refine ⟨fun _ => hS.tl, ?_⟩
          refine dl 6 rfl (by kernel_rfl) ?_
          refine cv cf151 hS rfl rfl rfl rfl rfl (sp_fast_Cipher_Decrypt (c) (_) (key) ((xorV (blk bs k) (crO key nonce (k + 1)))) _ (hS.old hC List.not_mem_nil)) ?_
          intro w hS
          refine ⟨fun _ => hS.tl, ?_⟩
          refine dl 7 rfl (by kernel_rfl) ?_
          refine cv (v := .agg (BV (deB key nonce bs k))) cf143 hS rfl rfl rfl rfl rfl (sp_block_Xor ((crO key nonce (k + 1))) ((dec key (xorV (blk bs k) (crO key nonce (k + 1))))) _) ?_
          intro w hS
          refine ⟨fun _ => hS.tl, ?_⟩
          refine dl 9 rfl (by kernel_rfl) ?_
          refine sa 0 ag22 hS rfl rfl rfl (BV_one _) rfl (BV_size _) (BV_size _) ?_
          intro w hS
          refine ⟨fun h => (by cases h), ?_⟩
          refine de (by kernel_rfl) ?_
          refine wqi_then ?_
          refine wci_draw mo (by kernel_rfl) 3 (fun w => St w0 [] ([(b12, .cells (BV (deB key nonce bs k)) 22), (b11, .cells (BV (blk bs k)) 22), (lp, .loop { r with state := .busy }), (D, .deferred (some [])), (b23, .cells (#[(.slice a n cap)]) 30), (b9, .cells (#[.func (.func 150) #[] #[Ptr b6 0, Ptr b7 0]]) 241), (b8, .cells (BV (crO key nonce (k + 1))) 22), (b7, .cells (BV (deC key nonce bs k)) 22), (b6, .cells (#[.slice s.1 (k * 16) s.2.1]) 30), (b4, .cells (BV nonce) 173), (b3, .cells (#[Ptr t 0]) 77)] ++ (s.2.2 ++ [])) w) ?_
          have hS := hS.drew
          refine dq 0 rfl (by kernel_rfl) (by kernel_rfl) (by kernel_rfl) rfl rfl (fun w hS => lo 5 sc241 hS rfl rfl rfl rfl rfl ⟨rfl, rfl⟩) hS ?_
          refine dq 1 rfl (by kernel_rfl) (by kernel_rfl) (by kernel_rfl) rfl rfl (fun w hS => a_all Tryz.underlying22 ⟨_, sz5⟩ rfl rfl rfl ⟨rfl, rfl⟩) hS ?_
          refine dq 2 rfl (by kernel_rfl) (by kernel_rfl) (by kernel_rfl) rfl rfl (fun w hS => la 0 ag22 hS rfl rfl rfl rfl (BV_size _) ⟨rfl, rfl⟩) hS ?_
          refine dl 3 rfl (by kernel_rfl) ?_
          refine cl cf150 rfl rfl rfl rfl rfl (sp_open_Decrypt_1 (some ⟨b12, 0, none⟩) 16 16 ((deB key nonce bs k).toList) (deB key nonce bs k) (deC key nonce bs k) _ _ _ _ s.1 (k * 16) s.2.1 (deT key nonce bs k) s.2.2 _ Vector.length_toList (by omega) (Cel.bv (hS.get 0 rfl)) (hS.get 8 rfl) (hS.get 7 rfl) hO (fun p hp => (hS.own p (by simp [hp])).2) (St.nd2 (A := [(b12, .cells (BV (deB key nonce bs k)) 22), (b11, .cells (BV (blk bs k)) 22), (lp, .loop { r with state := .busy }), (D, .deferred (some [])), (b23, .cells (#[(.slice a n cap)]) 30), (b9, .cells (#[.func (.func 150) #[] #[Ptr b6 0, Ptr b7 0]]) 241), (b8, .cells (BV (crO key nonce (k + 1))) 22), (b7, .cells (BV (deC key nonce bs k)) 22), (b6, .cells (#[.slice s.1 (k * 16) s.2.1]) 30), (b4, .cells (BV nonce) 173), (b3, .cells (#[Ptr t 0]) 77)]) (R := []) (i := 8) (j := 7) hS rfl rfl)) ?_
          rintro _ w ⟨a42, c42, X42, ⟨v42, rfl⟩, hO42, hS1⟩
          refine ⟨_, rfl, ?_⟩
          have hS : St w0 [] ([(b12, .cells (BV (deB key nonce bs k)) 22), (b11, .cells (BV (blk bs k)) 22), (lp, .loop { r with state := .busy }), (D, .deferred (some [])), (b23, .cells (#[(.slice a n cap)]) 30), (b9, .cells (#[.func (.func 150) #[] #[Ptr b6 0, Ptr b7 0]]) 241), (b8, .cells (BV (crO key nonce (k + 1))) 22), (b7, .cells (BV (xorV (deC key nonce bs k) (deB key nonce bs k))) 22), (b6, .cells (#[.slice a42 ((k * 16) + 16) c42]) 30), (b4, .cells (BV nonce) 173), (b3, .cells (#[Ptr t 0]) 77)] ++ (X42 ++ [])) w := St.call_out2 (A := [(b12, .cells (BV (deB key nonce bs k)) 22), (b11, .cells (BV (blk bs k)) 22), (lp, .loop { r with state := .busy }), (D, .deferred (some [])), (b23, .cells (#[(.slice a n cap)]) 30), (b9, .cells (#[.func (.func 150) #[] #[Ptr b6 0, Ptr b7 0]]) 241), (b8, .cells (BV (crO key nonce (k + 1))) 22), (b7, .cells (BV (deC key nonce bs k)) 22), (b6, .cells (#[.slice s.1 (k * 16) s.2.1]) 30), (b4, .cells (BV nonce) 173), (b3, .cells (#[Ptr t 0]) 77)]) (A2 := [(b12, .cells (BV (deB key nonce bs k)) 22), (b11, .cells (BV (blk bs k)) 22), (lp, .loop { r with state := .busy }), (D, .deferred (some [])), (b23, .cells (#[(.slice a n cap)]) 30), (b9, .cells (#[.func (.func 150) #[] #[Ptr b6 0, Ptr b7 0]]) 241), (b8, .cells (BV (crO key nonce (k + 1))) 22), (b7, .cells (BV (xorV (deC key nonce bs k) (deB key nonce bs k))) 22), (b6, .cells (#[.slice a42 ((k * 16) + 16) c42]) 30), (b4, .cells (BV nonce) 173), (b3, .cells (#[Ptr t 0]) 77)]) (i := 8) (j := 7) hS rfl rfl rfl rfl rfl hS1
          refine ⟨fun h => (by cases h), ?_⟩
          refine de (by kernel_rfl) ?_
          refine q_block_norm ?_
          refine end_q 2 hS rfl hr hp (fun w hS => ?_)
          have e16 : k * 16 + 16 = (k + 1) * 16 := by omega
          rw [e16] at hS hO42
          exact ⟨rfl, _, ⟨(a42, c42, X42), hO42, rfl⟩, hS.tl.tl⟩
      · skip
        refine ala zr22 hS rfl rfl ?_
        intro b12 w hb12 hS
        refine ⟨fun _ => hS.tl, ?_⟩
        refine dl 5 rfl (by kernel_rfl) ?_
        refine cv cf143 hS rfl rfl rfl rfl rfl (sp_block_Xor ((blk bs k)) ((crO key nonce (k + 1))) _) ?_
        intro w hS
        refine ⟨fun _ => hS.tl, ?_⟩
        refine dl 6 rfl (by kernel_rfl) ?_
        refine cv cf151 hS rfl rfl rfl rfl rfl (sp_fast_Cipher_Decrypt (c) (_) (key) ((xorV (blk bs k) (crO key nonce (k + 1)))) _ (hS.old hC List.not_mem_nil)) ?_
        intro w hS
        refine ⟨fun _ => hS.tl, ?_⟩
        refine dl 7 rfl (by kernel_rfl) ?_
        refine cv (v := .agg (BV (deB key nonce bs k))) cf143 hS rfl rfl rfl rfl rfl (sp_block_Xor ((crO key nonce (k + 1))) ((dec key (xorV (blk bs k) (crO key nonce (k + 1))))) _) ?_
        intro w hS
        refine ⟨fun _ => hS.tl, ?_⟩
        refine dl 9 rfl (by kernel_rfl) ?_
        refine sa 0 ag22 hS rfl rfl rfl (BV_one _) rfl (BV_size _) (BV_size _) ?_
        intro w hS
        refine ⟨fun h => (by cases h), ?_⟩
        refine de (by kernel_rfl) ?_
        refine wqi_then ?_
        refine wci_draw mo (by kernel_rfl) 3 (fun w => St w0 [] ([(b12, .cells (BV (deB key nonce bs k)) 22), (b11, .cells (BV (blk bs k)) 22), (lp, .loop { r with state := .busy }), (D, .deferred (some [])), (b23, .cells (#[(.slice a n cap)]) 30), (b9, .cells (#[.func (.func 150) #[] #[Ptr b6 0, Ptr b7 0]]) 241), (b8, .cells (BV (crO key nonce (k + 1))) 22), (b7, .cells (BV (deC key nonce bs k)) 22), (b6, .cells (#[.slice s.1 (k * 16) s.2.1]) 30), (b4, .cells (BV nonce) 173), (b3, .cells (#[Ptr t 0]) 77)] ++ (s.2.2 ++ [])) w) ?_
        have hS := hS.drew
        refine dq 0 rfl (by kernel_rfl) (by kernel_rfl) (by kernel_rfl) rfl rfl (fun w hS => lo 5 sc241 hS rfl rfl rfl rfl rfl ⟨rfl, rfl⟩) hS ?_
        refine dq 1 rfl (by kernel_rfl) (by kernel_rfl) (by kernel_rfl) rfl rfl (fun w hS => a_all Tryz.underlying22 ⟨_, sz5⟩ rfl rfl rfl ⟨rfl, rfl⟩) hS ?_
        refine dq 2 rfl (by kernel_rfl) (by kernel_rfl) (by kernel_rfl) rfl rfl (fun w hS => la 0 ag22 hS rfl rfl rfl rfl (BV_size _) ⟨rfl, rfl⟩) hS ?_
        refine dl 3 rfl (by kernel_rfl) ?_
        refine cl cf150 rfl rfl rfl rfl rfl (sp_open_Decrypt_1 (some ⟨b12, 0, none⟩) 16 16 ((deB key nonce bs k).toList) (deB key nonce bs k) (deC key nonce bs k) _ _ _ _ s.1 (k * 16) s.2.1 (deT key nonce bs k) s.2.2 _ Vector.length_toList (by omega) (Cel.bv (hS.get 0 rfl)) (hS.get 8 rfl) (hS.get 7 rfl) hO (fun p hp => (hS.own p (by simp [hp])).2) (St.nd2 (A := [(b12, .cells (BV (deB key nonce bs k)) 22), (b11, .cells (BV (blk bs k)) 22), (lp, .loop { r with state := .busy }), (D, .deferred (some [])), (b23, .cells (#[(.slice a n cap)]) 30), (b9, .cells (#[.func (.func 150) #[] #[Ptr b6 0, Ptr b7 0]]) 241), (b8, .cells (BV (crO key nonce (k + 1))) 22), (b7, .cells (BV (deC key nonce bs k)) 22), (b6, .cells (#[.slice s.1 (k * 16) s.2.1]) 30), (b4, .cells (BV nonce) 173), (b3, .cells (#[Ptr t 0]) 77)]) (R := []) (i := 8) (j := 7) hS rfl rfl)) ?_
        rintro _ w ⟨a42, c42, X42, ⟨v42, rfl⟩, hO42, hS1⟩
        refine ⟨_, rfl, ?_⟩
        have hS : St w0 [] ([(b12, .cells (BV (deB key nonce bs k)) 22), (b11, .cells (BV (blk bs k)) 22), (lp, .loop { r with state := .busy }), (D, .deferred (some [])), (b23, .cells (#[(.slice a n cap)]) 30), (b9, .cells (#[.func (.func 150) #[] #[Ptr b6 0, Ptr b7 0]]) 241), (b8, .cells (BV (crO key nonce (k + 1))) 22), (b7, .cells (BV (xorV (deC key nonce bs k) (deB key nonce bs k))) 22), (b6, .cells (#[.slice a42 ((k * 16) + 16) c42]) 30), (b4, .cells (BV nonce) 173), (b3, .cells (#[Ptr t 0]) 77)] ++ (X42 ++ [])) w := St.call_out2 (A := [(b12, .cells (BV (deB key nonce bs k)) 22), (b11, .cells (BV (blk bs k)) 22), (lp, .loop { r with state := .busy }), (D, .deferred (some [])), (b23, .cells (#[(.slice a n cap)]) 30), (b9, .cells (#[.func (.func 150) #[] #[Ptr b6 0, Ptr b7 0]]) 241), (b8, .cells (BV (crO key nonce (k + 1))) 22), (b7, .cells (BV (deC key nonce bs k)) 22), (b6, .cells (#[.slice s.1 (k * 16) s.2.1]) 30), (b4, .cells (BV nonce) 173), (b3, .cells (#[Ptr t 0]) 77)]) (A2 := [(b12, .cells (BV (deB key nonce bs k)) 22), (b11, .cells (BV (blk bs k)) 22), (lp, .loop { r with state := .busy }), (D, .deferred (some [])), (b23, .cells (#[(.slice a n cap)]) 30), (b9, .cells (#[.func (.func 150) #[] #[Ptr b6 0, Ptr b7 0]]) 241), (b8, .cells (BV (crO key nonce (k + 1))) 22), (b7, .cells (BV (xorV (deC key nonce bs k) (deB key nonce bs k))) 22), (b6, .cells (#[.slice a42 ((k * 16) + 16) c42]) 30), (b4, .cells (BV nonce) 173), (b3, .cells (#[Ptr t 0]) 77)]) (i := 8) (j := 7) hS rfl rfl rfl rfl rfl hS1
        refine ⟨fun h => (by cases h), ?_⟩
        refine de (by kernel_rfl) ?_
        refine q_block_norm ?_
        refine end_q 2 hS rfl hr hp (fun w hS => ?_)
        have e16 : k * 16 + 16 = (k + 1) * 16 := by omega
        rw [e16] at hS hO42
        exact ⟨rfl, _, ⟨(a42, c42, X42), hO42, rfl⟩, hS.tl.tl⟩
    · skip
      refine ala zr22 hS rfl rfl ?_
      intro b12 w hb12 hS
      refine ⟨fun _ => hS.tl, ?_⟩
      refine dl 2 rfl (by kernel_rfl) ?_
      refine cv cf144 hS rfl rfl rfl rfl rfl (sp_table_Table_Cipher (t) (c) (key) _ (hT.st hS)) ?_
      intro w hS
      refine ⟨fun _ => hS.tl, ?_⟩
      refine dl 5 rfl (by kernel_rfl) ?_
      refine cv cf143 hS rfl rfl rfl rfl rfl (sp_block_Xor ((blk bs k)) ((crO key nonce (k + 1))) _) ?_
      intro w hS
      refine ⟨fun _ => hS.tl, ?_⟩
      refine dl 6 rfl (by kernel_rfl) ?_
      refine cv cf151 hS rfl rfl rfl rfl rfl (sp_fast_Cipher_Decrypt (c) (_) (key) ((xorV (blk bs k) (crO key nonce (k + 1)))) _ (hS.old hC List.not_mem_nil)) ?_
      intro w hS
      refine ⟨fun _ => hS.tl, ?_⟩
      refine dl 7 rfl (by kernel_rfl) ?_
      refine cv (v := .agg (BV (deB key nonce bs k))) cf143 hS rfl rfl rfl rfl rfl (sp_block_Xor ((crO key nonce (k + 1))) ((dec key (xorV (blk bs k) (crO key nonce (k + 1))))) _) ?_
      intro w hS
      refine ⟨fun _ => hS.tl, ?_⟩
      refine dl 9 rfl (by kernel_rfl) ?_
      refine sa 0 ag22 hS rfl rfl rfl (BV_one _) rfl (BV_size _) (BV_size _) ?_
      intro w hS
      refine ⟨fun h => (by cases h), ?_⟩
      refine de (by kernel_rfl) ?_
      refine wqi_then ?_
      refine wci_draw mo (by kernel_rfl) 3 (fun w => St w0 [] ([(b12, .cells (BV (deB key nonce bs k)) 22), (b11, .cells (BV (blk bs k)) 22), (lp, .loop { r with state := .busy }), (D, .deferred (some [])), (b23, .cells (#[(.slice a n cap)]) 30), (b9, .cells (#[.func (.func 150) #[] #[Ptr b6 0, Ptr b7 0]]) 241), (b8, .cells (BV (crO key nonce (k + 1))) 22), (b7, .cells (BV (deC key nonce bs k)) 22), (b6, .cells (#[.slice s.1 (k * 16) s.2.1]) 30), (b4, .cells (BV nonce) 173), (b3, .cells (#[Ptr t 0]) 77)] ++ (s.2.2 ++ [])) w) ?_
      have hS := hS.drew
      refine dq 0 rfl (by kernel_rfl) (by kernel_rfl) (by kernel_rfl) rfl rfl (fun w hS => lo 5 sc241 hS rfl rfl rfl rfl rfl ⟨rfl, rfl⟩) hS ?_
      refine dq 1 rfl (by kernel_rfl) (by kernel_rfl) (by kernel_rfl) rfl rfl (fun w hS => a_all Tryz.underlying22 ⟨_, sz5⟩ rfl rfl rfl ⟨rfl, rfl⟩) hS ?_
      refine dq 2 rfl (by kernel_rfl) (by kernel_rfl) (by kernel_rfl) rfl rfl (fun w hS => la 0 ag22 hS rfl rfl rfl rfl (BV_size _) ⟨rfl, rfl⟩) hS ?_
      refine dl 3 rfl (by kernel_rfl) ?_
      refine cl cf150 rfl rfl rfl rfl rfl (sp_open_Decrypt_1 (some ⟨b12, 0, none⟩) 16 16 ((deB key nonce bs k).toList) (deB key nonce bs k) (deC key nonce bs k) _ _ _ _ s.1 (k * 16) s.2.1 (deT key nonce bs k) s.2.2 _ Vector.length_toList (by omega) (Cel.bv (hS.get 0 rfl)) (hS.get 8 rfl) (hS.get 7 rfl) hO (fun p hp => (hS.own p (by simp [hp])).2) (St.nd2 (A := [(b12, .cells (BV (deB key nonce bs k)) 22), (b11, .cells (BV (blk bs k)) 22), (lp, .loop { r with state := .busy }), (D, .deferred (some [])), (b23, .cells (#[(.slice a n cap)]) 30), (b9, .cells (#[.func (.func 150) #[] #[Ptr b6 0, Ptr b7 0]]) 241), (b8, .cells (BV (crO key nonce (k + 1))) 22), (b7, .cells (BV (deC key nonce bs k)) 22), (b6, .cells (#[.slice s.1 (k * 16) s.2.1]) 30), (b4, .cells (BV nonce) 173), (b3, .cells (#[Ptr t 0]) 77)]) (R := []) (i := 8) (j := 7) hS rfl rfl)) ?_
      rintro _ w ⟨a42, c42, X42, ⟨v42, rfl⟩, hO42, hS1⟩
      refine ⟨_, rfl, ?_⟩
      have hS : St w0 [] ([(b12, .cells (BV (deB key nonce bs k)) 22), (b11, .cells (BV (blk bs k)) 22), (lp, .loop { r with state := .busy }), (D, .deferred (some [])), (b23, .cells (#[(.slice a n cap)]) 30), (b9, .cells (#[.func (.func 150) #[] #[Ptr b6 0, Ptr b7 0]]) 241), (b8, .cells (BV (crO key nonce (k + 1))) 22), (b7, .cells (BV (xorV (deC key nonce bs k) (deB key nonce bs k))) 22), (b6, .cells (#[.slice a42 ((k * 16) + 16) c42]) 30), (b4, .cells (BV nonce) 173), (b3, .cells (#[Ptr t 0]) 77)] ++ (X42 ++ [])) w := St.call_out2 (A := [(b12, .cells (BV (deB key nonce bs k)) 22), (b11, .cells (BV (blk bs k)) 22), (lp, .loop { r with state := .busy }), (D, .deferred (some [])), (b23, .cells (#[(.slice a n cap)]) 30), (b9, .cells (#[.func (.func 150) #[] #[Ptr b6 0, Ptr b7 0]]) 241), (b8, .cells (BV (crO key nonce (k + 1))) 22), (b7, .cells (BV (deC key nonce bs k)) 22), (b6, .cells (#[.slice s.1 (k * 16) s.2.1]) 30), (b4, .cells (BV nonce) 173), (b3, .cells (#[Ptr t 0]) 77)]) (A2 := [(b12, .cells (BV (deB key nonce bs k)) 22), (b11, .cells (BV (blk bs k)) 22), (lp, .loop { r with state := .busy }), (D, .deferred (some [])), (b23, .cells (#[(.slice a n cap)]) 30), (b9, .cells (#[.func (.func 150) #[] #[Ptr b6 0, Ptr b7 0]]) 241), (b8, .cells (BV (crO key nonce (k + 1))) 22), (b7, .cells (BV (xorV (deC key nonce bs k) (deB key nonce bs k))) 22), (b6, .cells (#[.slice a42 ((k * 16) + 16) c42]) 30), (b4, .cells (BV nonce) 173), (b3, .cells (#[Ptr t 0]) 77)]) (i := 8) (j := 7) hS rfl rfl rfl rfl rfl hS1
      refine ⟨fun h => (by cases h), ?_⟩
      refine de (by kernel_rfl) ?_
      refine q_block_norm ?_
      refine end_q 2 hS rfl hr hp (fun w hS => ?_)
      have e16 : k * 16 + 16 = (k + 1) * 16 := by omega
      rw [e16] at hS hO42
      exact ⟨rfl, _, ⟨(a42, c42, X42), hO42, rfl⟩, hS.tl.tl⟩
  · rintro D _ w ⟨s, hO, rfl⟩ hS
    have hS : St w0 [] ([(D, .deferred (some [])), (b23, .cells (#[(.slice a n cap)]) 30), (b9, .cells (#[.func (.func 150) #[] #[Ptr b6 0, Ptr b7 0]]) 241), (b8, .cells (BV (crO key nonce (n / 16))) 22), (b7, .cells (BV (deC key nonce bs (n / 16))) 22), (b6, .cells (#[.slice s.1 ((n / 16) * 16) s.2.1]) 30), (b4, .cells (BV nonce) 173), (b3, .cells (#[Ptr t 0]) 77)] ++ (s.2.2 ++ [])) w := hS
    refine q_block_norm ?_
    refine wq_then ?_
    refine rg ?_
    refine mv rfl rfl rfl ?_
    refine lo 5 sc30 hS rfl rfl rfl rfl rfl ?_
    refine lens Tryz.underlying30 rfl rfl rfl ?_
    refine s_l ((n / 16) * 16) Tryz.underlying30 sz5 rfl rfl rfl rfl (by omega) (by omega) ?_
    refine asg rfl rfl rfl ?_
    refine wq_then ?_
    refine wc_seq ?_
    refine rg ?_
    refine mv rfl rfl rfl ?_
    refine lens Tryz.underlying30 rfl rfl rfl ?_
    refine eqi rfl rfl rfl rfl ?_
    refine wq_then ?_
    refine wc_if rfl (fun hc1 => ?_) (fun hc1 => ?_)
    · skip
      try simp only [SB] at hc1
      have hz : n / 16 * 16 = n := by omega
      refine rd mo 5 (fun w => St w0 [] ([(D, .deferred (some [])), (b23, .cells (#[(.slice a n cap)]) 30), (b9, .cells (#[.func (.func 150) #[] #[Ptr b6 0, Ptr b7 0]]) 241), (b8, .cells (BV (crO key nonce (n / 16))) 22), (b7, .cells (BV (deC key nonce bs (n / 16))) 22), (b6, .cells (#[.slice s.1 ((n / 16) * 16) s.2.1]) 30), (b4, .cells (BV nonce) 173), (b3, .cells (#[Ptr t 0]) 77)] ++ (s.2.2 ++ [])) w) ?_
      have hS := hS.drew
      refine dq 0 rfl (by kernel_rfl) (by kernel_rfl) (by kernel_rfl) rfl rfl (fun w hS => lo 5 sc30 hS rfl rfl rfl rfl rfl ⟨rfl, rfl⟩) hS ?_
      refine dq 1 rfl (by kernel_rfl) (by kernel_rfl) (by kernel_rfl) rfl rfl (fun w hS => la 4 ag22 hS rfl rfl rfl rfl (BV_size _) ⟨rfl, rfl⟩) hS ?_
      refine dq 2 rfl (by kernel_rfl) (by kernel_rfl) (by kernel_rfl) rfl rfl (fun w hS => la 3 ag22 hS rfl rfl rfl rfl (BV_size _) ⟨rfl, rfl⟩) hS ?_
      refine dl 3 rfl (by kernel_rfl) ?_
      refine st 5 sz30 hS rfl rfl rfl rfl rfl rfl Nat.zero_lt_one rfl ?_
      intro w hS
      refine ⟨fun _ => hS, ?_⟩
      refine dl 4 rfl (by kernel_rfl) ?_
      refine sa 4 ag22 hS rfl rfl rfl (BV_one _) rfl (BV_size _) (BV_size _) ?_
      intro w hS
      refine ⟨fun _ => hS, ?_⟩
      refine dl 5 rfl (by kernel_rfl) ?_
      refine sa 3 ag22 hS rfl rfl rfl (BV_one _) rfl (BV_size _) (BV_size _) ?_
      intro w hS
      refine ⟨fun h => (by cases h), ?_⟩
      refine de (by kernel_rfl) ?_
      refine wq_then ?_
      refine wc_ret ?_
      refine q_then_ret ?_
      refine finM3 (v := .slice s.1 ((n / 16) * 16) s.2.1) (u := .agg (BV (deC key nonce bs (n / 16)))) (x := .agg (BV (crO key nonce (n / 16)))) 0 hS rfl rfl rfl (fun w hS => ⟨_, rfl, lv_c sc30 (hS.get 5 rfl) rfl⟩) (fun w hS => ⟨_, rfl, lv_a ag22 (hS.get 4 rfl) (BV_size _)⟩) (fun w hS => ⟨_, rfl, lv_a ag22 (hS.get 3 rfl) (BV_size _)⟩) (fun w hS => ?_)
      exact ⟨_, _, rfl, ⟨_, _, dec_z1 hn hz, dec_z2 hn hz hO⟩, hS.sublist (.cons _ (.cons _ (.cons _ (.cons _ (.cons _ (.cons _ (.cons _ (.cons _ (List.sublist_append_left s.2.2 [])))))))))⟩
    · skip
      try simp only [SB] at hc1
      have hz : ¬ n / 16 * 16 = n := by omega
      refine wc_skip ?_
      refine wq_then ?_
      refine rd mo 4 (fun w => St w0 [] ([(D, .deferred (some [])), (b23, .cells (#[(.slice a n cap)]) 30), (b9, .cells (#[.func (.func 150) #[] #[Ptr b6 0, Ptr b7 0]]) 241), (b8, .cells (BV (crO key nonce (n / 16))) 22), (b7, .cells (BV (deC key nonce bs (n / 16))) 22), (b6, .cells (#[.slice s.1 ((n / 16) * 16) s.2.1]) 30), (b4, .cells (BV nonce) 173), (b3, .cells (#[Ptr t 0]) 77)] ++ (s.2.2 ++ [])) w) ?_
      have hS := hS.drew
      refine dq 0 rfl (by kernel_rfl) (by kernel_rfl) (by kernel_rfl) rfl rfl (fun w hS => la 3 ag22 hS rfl rfl rfl rfl (BV_size _) ⟨rfl, rfl⟩) hS ?_
      refine dq 1 rfl (by kernel_rfl) (by kernel_rfl) (by kernel_rfl) rfl rfl (fun w hS => lo 7 sc77 hS rfl rfl rfl rfl rfl ⟨rfl, rfl⟩) hS ?_
      refine dl 2 rfl (by kernel_rfl) ?_
      refine cv cf145 hS rfl rfl rfl rfl rfl (sp_table_Table_Star (t) (c) (key) _ (hT.st hS)) ?_
      intro w hS
      refine ⟨fun _ => hS, ?_⟩
      refine dl 3 rfl (by kernel_rfl) ?_
      refine cv cf143 hS rfl rfl rfl rfl rfl (sp_block_Xor ((crO key nonce (n / 16))) ((star key)) _) ?_
      intro w hS
      refine ⟨fun _ => hS, ?_⟩
      refine dl 4 rfl (by kernel_rfl) ?_
      refine sa 3 ag22 hS rfl rfl rfl (BV_one _) rfl (BV_size _) (BV_size _) ?_
      intro w hS
      refine ⟨fun h => (by cases h), ?_⟩
      refine de (by kernel_rfl) ?_
      refine wq_then ?_
      refine rd mo 5 (fun w => St w0 [] ([(D, .deferred (some [])), (b23, .cells (#[(.slice a n cap)]) 30), (b9, .cells (#[.func (.func 150) #[] #[Ptr b6 0, Ptr b7 0]]) 241), (b8, .cells (BV (xorV (crO key nonce (n / 16)) (star key))) 22), (b7, .cells (BV (deC key nonce bs (n / 16))) 22), (b6, .cells (#[.slice s.1 ((n / 16) * 16) s.2.1]) 30), (b4, .cells (BV nonce) 173), (b3, .cells (#[Ptr t 0]) 77)] ++ (s.2.2 ++ [])) w) ?_
      have hS := hS.drew
      refine dq 0 rfl (by kernel_rfl) (by kernel_rfl) (by kernel_rfl) rfl rfl (fun w hS => lo 7 sc77 hS rfl rfl rfl rfl rfl ⟨rfl, rfl⟩) hS ?_
      refine dq 2 rfl (by kernel_rfl) (by kernel_rfl) (by kernel_rfl) rfl rfl (fun w hS => la 3 ag22 hS rfl rfl rfl rfl (BV_size _) ⟨rfl, rfl⟩) hS ?_
      refine dl2 1 4 rfl rfl (by kernel_rfl) ?_ ?_
      · skip
        refine cv cf144 hS rfl rfl rfl rfl rfl (sp_table_Table_Cipher (t) (c) (key) _ (hT.st hS)) ?_
        intro w hS
        refine ⟨fun _ => hS, ?_⟩
        refine dl2 3 4 rfl rfl (by kernel_rfl) ?_ ?_
        · skip
          refine cv cf71 hS rfl rfl rfl rfl rfl (sp_fast_Cipher_Encrypt (c) (_) (key) ((xorV (crO key nonce (n / 16)) (star key))) _ (hS.old hC List.not_mem_nil)) ?_
          intro w hS
          refine ⟨fun _ => hS, ?_⟩
          refine dl 4 rfl (by kernel_rfl) ?_
          refine ala zr22 hS rfl rfl ?_
          intro b14 w hb14 hS
          refine ⟨fun _ => hS.tl, ?_⟩
          refine dl 5 rfl (by kernel_rfl) ?_
          refine sa 0 ag22 hS rfl rfl rfl (BV_one _) rfl (BV_size _) (BV_size _) ?_
          intro w hS
          refine ⟨fun h => (by cases h), ?_⟩
          refine de (by kernel_rfl) ?_
          refine wq_then ?_
          refine rg ?_
          refine mv rfl rfl rfl ?_
          refine a_all Tryz.underlying22 ⟨_, sz5⟩ rfl rfl rfl ?_
          refine cs cf152 hS rfl rfl rfl rfl rfl (sp_bits_Xor ((sla a ((n / 16) * 16) cap)) ((n - ((n / 16) * 16))) ((cap - ((n / 16) * 16))) (((bs).drop ((n / 16) * 16))) ((some ⟨b14, 0, none⟩)) (16) (16) (((enc key (xorV (crO key nonce (n / 16)) (star key))).toList)) _ (by first | rfl | omega | (simp; omega) | (simp; done)) (by omega) ((hc.st hS).drop8 (lo := (n / 16) * 16) (cap := cap) (by first | omega | (simp; omega) | simp)) Vector.length_toList (by omega) (Cel.bv (hS.get 0 rfl))) ?_
          rintro _ _ w ⟨q63, rfl, rfl⟩ hS
          refine asg rfl rfl rfl ?_
          refine wq_then ?_
          refine rg ?_
          refine mv rfl rfl rfl ?_
          refine cv cf146 hS rfl rfl rfl rfl rfl (sp_block_Pad ((some ⟨q63, 0, none⟩)) ((min (n - ((n / 16) * 16)) 16)) ((min (n - ((n / 16) * 16)) 16)) ((xorb ((bs).drop ((n / 16) * 16)) ((enc key (xorV (crO key nonce (n / 16)) (star key))).toList))) _ (by rw [xorb_len]; (try simp) <;> omega) (by omega) (Cel.lb (l := xorb ((bs).drop ((n / 16) * 16)) ((enc key (xorV (crO key nonce (n / 16)) (star key))).toList)) (hS.get 0 rfl)) (by omega)) ?_
          intro w hS
          refine mv rfl rfl rfl ?_
          refine ext rfl rfl rfl rfl ?_
          refine ext rfl rfl rfl rfl ?_
          refine ala zr22 hS rfl rfl ?_
          intro b16 w hb16 hS
          refine sa 0 ag22 hS rfl rfl rfl (BV_one _) rfl (BV_size _) (BV_size _) ?_
          intro w hS
          refine asg rfl rfl rfl ?_
          refine wq_then ?_
          refine rg ?_
          refine lo 5 sc241 hS rfl rfl rfl rfl rfl ?_
          refine mv rfl rfl rfl ?_
          refine la 0 ag22 hS rfl rfl rfl rfl (BV_size _) ?_
          refine cl cf150 rfl rfl rfl rfl rfl (sp_open_Decrypt_1 (some ⟨q63, 0, none⟩) (min (n - ((n / 16) * 16)) 16) (min (n - ((n / 16) * 16)) 16) (xorb ((bs).drop ((n / 16) * 16)) ((enc key (xorV (crO key nonce (n / 16)) (star key))).toList)) (padV (xorb ((bs).drop ((n / 16) * 16)) ((enc key (xorV (crO key nonce (n / 16)) (star key))).toList))) (deC key nonce bs (n / 16)) _ _ _ _ s.1 ((n / 16) * 16) s.2.1 (deT key nonce bs (n / 16)) s.2.2 _ (by rw [xorb_len]; (try simp) <;> omega) (by omega) (Cel.lb (l := xorb ((bs).drop ((n / 16) * 16)) ((enc key (xorV (crO key nonce (n / 16)) (star key))).toList)) (hS.get 1 rfl)) (hS.get 8 rfl) (hS.get 7 rfl) hO (fun p hp => (hS.own p (by simp [hp])).2) (St.nd2 (A := [(b16, .cells (BV (padV (xorb ((bs).drop ((n / 16) * 16)) ((enc key (xorV (crO key nonce (n / 16)) (star key))).toList)))) 22), (q63, .cells (LB (xorb ((bs).drop ((n / 16) * 16)) ((enc key (xorV (crO key nonce (n / 16)) (star key))).toList))) 5), (b14, .cells (BV (enc key (xorV (crO key nonce (n / 16)) (star key)))) 22), (D, .deferred (some [])), (b23, .cells (#[(.slice a n cap)]) 30), (b9, .cells (#[.func (.func 150) #[] #[Ptr b6 0, Ptr b7 0]]) 241), (b8, .cells (BV (xorV (crO key nonce (n / 16)) (star key))) 22), (b7, .cells (BV (deC key nonce bs (n / 16))) 22), (b6, .cells (#[.slice s.1 ((n / 16) * 16) s.2.1]) 30), (b4, .cells (BV nonce) 173), (b3, .cells (#[Ptr t 0]) 77)]) (R := []) (i := 8) (j := 7) hS rfl rfl)) ?_
          rintro _ w ⟨a72, c72, X72, ⟨v72, rfl⟩, hO72, hS1⟩
          refine ⟨_, rfl, ?_⟩
          have hS : St w0 [] ([(b16, .cells (BV (padV (xorb ((bs).drop ((n / 16) * 16)) ((enc key (xorV (crO key nonce (n / 16)) (star key))).toList)))) 22), (q63, .cells (LB (xorb ((bs).drop ((n / 16) * 16)) ((enc key (xorV (crO key nonce (n / 16)) (star key))).toList))) 5), (b14, .cells (BV (enc key (xorV (crO key nonce (n / 16)) (star key)))) 22), (D, .deferred (some [])), (b23, .cells (#[(.slice a n cap)]) 30), (b9, .cells (#[.func (.func 150) #[] #[Ptr b6 0, Ptr b7 0]]) 241), (b8, .cells (BV (xorV (crO key nonce (n / 16)) (star key))) 22), (b7, .cells (BV (xorV (deC key nonce bs (n / 16)) (padV (xorb ((bs).drop ((n / 16) * 16)) ((enc key (xorV (crO key nonce (n / 16)) (star key))).toList))))) 22), (b6, .cells (#[.slice a72 (((n / 16) * 16) + (min (n - ((n / 16) * 16)) 16)) c72]) 30), (b4, .cells (BV nonce) 173), (b3, .cells (#[Ptr t 0]) 77)] ++ (X72 ++ [])) w := St.call_out2 (A := [(b16, .cells (BV (padV (xorb ((bs).drop ((n / 16) * 16)) ((enc key (xorV (crO key nonce (n / 16)) (star key))).toList)))) 22), (q63, .cells (LB (xorb ((bs).drop ((n / 16) * 16)) ((enc key (xorV (crO key nonce (n / 16)) (star key))).toList))) 5), (b14, .cells (BV (enc key (xorV (crO key nonce (n / 16)) (star key)))) 22), (D, .deferred (some [])), (b23, .cells (#[(.slice a n cap)]) 30), (b9, .cells (#[.func (.func 150) #[] #[Ptr b6 0, Ptr b7 0]]) 241), (b8, .cells (BV (xorV (crO key nonce (n / 16)) (star key))) 22), (b7, .cells (BV (deC key nonce bs (n / 16))) 22), (b6, .cells (#[.slice s.1 ((n / 16) * 16) s.2.1]) 30), (b4, .cells (BV nonce) 173), (b3, .cells (#[Ptr t 0]) 77)]) (A2 := [(b16, .cells (BV (padV (xorb ((bs).drop ((n / 16) * 16)) ((enc key (xorV (crO key nonce (n / 16)) (star key))).toList)))) 22), (q63, .cells (LB (xorb ((bs).drop ((n / 16) * 16)) ((enc key (xorV (crO key nonce (n / 16)) (star key))).toList))) 5), (b14, .cells (BV (enc key (xorV (crO key nonce (n / 16)) (star key)))) 22), (D, .deferred (some [])), (b23, .cells (#[(.slice a n cap)]) 30), (b9, .cells (#[.func (.func 150) #[] #[Ptr b6 0, Ptr b7 0]]) 241), (b8, .cells (BV (xorV (crO key nonce (n / 16)) (star key))) 22), (b7, .cells (BV (xorV (deC key nonce bs (n / 16)) (padV (xorb ((bs).drop ((n / 16) * 16)) ((enc key (xorV (crO key nonce (n / 16)) (star key))).toList))))) 22), (b6, .cells (#[.slice a72 (((n / 16) * 16) + (min (n - ((n / 16) * 16)) 16)) c72]) 30), (b4, .cells (BV nonce) 173), (b3, .cells (#[Ptr t 0]) 77)]) (i := 8) (j := 7) hS rfl rfl rfl rfl rfl hS1
          refine wq_then ?_
          refine rd mo 5 (fun w => St w0 [] ([(b16, .cells (BV (padV (xorb ((bs).drop ((n / 16) * 16)) ((enc key (xorV (crO key nonce (n / 16)) (star key))).toList)))) 22), (q63, .cells (LB (xorb ((bs).drop ((n / 16) * 16)) ((enc key (xorV (crO key nonce (n / 16)) (star key))).toList))) 5), (b14, .cells (BV (enc key (xorV (crO key nonce (n / 16)) (star key)))) 22), (D, .deferred (some [])), (b23, .cells (#[(.slice a n cap)]) 30), (b9, .cells (#[.func (.func 150) #[] #[Ptr b6 0, Ptr b7 0]]) 241), (b8, .cells (BV (xorV (crO key nonce (n / 16)) (star key))) 22), (b7, .cells (BV (xorV (deC key nonce bs (n / 16)) (padV (xorb ((bs).drop ((n / 16) * 16)) ((enc key (xorV (crO key nonce (n / 16)) (star key))).toList))))) 22), (b6, .cells (#[.slice a72 (((n / 16) * 16) + (min (n - ((n / 16) * 16)) 16)) c72]) 30), (b4, .cells (BV nonce) 173), (b3, .cells (#[Ptr t 0]) 77)] ++ (X72 ++ [])) w) ?_
          have hS := hS.drew
          refine dq 0 rfl (by kernel_rfl) (by kernel_rfl) (by kernel_rfl) rfl rfl (fun w hS => lo 8 sc30 hS rfl rfl rfl rfl rfl ⟨rfl, rfl⟩) hS ?_
          refine dq 1 rfl (by kernel_rfl) (by kernel_rfl) (by kernel_rfl) rfl rfl (fun w hS => la 7 ag22 hS rfl rfl rfl rfl (BV_size _) ⟨rfl, rfl⟩) hS ?_
          refine dq 2 rfl (by kernel_rfl) (by kernel_rfl) (by kernel_rfl) rfl rfl (fun w hS => la 6 ag22 hS rfl rfl rfl rfl (BV_size _) ⟨rfl, rfl⟩) hS ?_
          refine dl 3 rfl (by kernel_rfl) ?_
          refine st 8 sz30 hS rfl rfl rfl rfl rfl rfl Nat.zero_lt_one rfl ?_
          intro w hS
          refine ⟨fun _ => hS, ?_⟩
          refine dl 4 rfl (by kernel_rfl) ?_
          refine sa 7 ag22 hS rfl rfl rfl (BV_one _) rfl (BV_size _) (BV_size _) ?_
          intro w hS
          refine ⟨fun _ => hS, ?_⟩
          refine dl 5 rfl (by kernel_rfl) ?_
          refine sa 6 ag22 hS rfl rfl rfl (BV_one _) rfl (BV_size _) (BV_size _) ?_
          intro w hS
          refine ⟨fun h => (by cases h), ?_⟩
          refine de (by kernel_rfl) ?_
          refine wq_then ?_
          refine wc_ret ?_
          refine finM3 (v := .slice a72 (((n / 16) * 16) + (min (n - ((n / 16) * 16)) 16)) c72) (u := .agg (BV (xorV (deC key nonce bs (n / 16)) (padV (xorb ((bs).drop ((n / 16) * 16)) ((enc key (xorV (crO key nonce (n / 16)) (star key))).toList)))))) (x := .agg (BV (xorV (crO key nonce (n / 16)) (star key)))) 3 hS rfl rfl rfl (fun w hS => ⟨_, rfl, lv_c sc30 (hS.get 8 rfl) rfl⟩) (fun w hS => ⟨_, rfl, lv_a ag22 (hS.get 7 rfl) (BV_size _)⟩) (fun w hS => ⟨_, rfl, lv_a ag22 (hS.get 6 rfl) (BV_size _)⟩) (fun w hS => ?_)
          exact ⟨_, _, rfl, ⟨_, _, dec_r1 hn hz _ (by omega), dec_r2 hn hz _ (by omega) hO72⟩, hS.sublist (.cons _ (.cons _ (.cons _ (.cons _ (.cons _ (.cons _ (.cons _ (.cons _ (.cons _ (.cons _ (.cons _ (List.sublist_append_left X72 []))))))))))))⟩
        · skip
          refine ala zr22 hS rfl rfl ?_
          intro b14 w hb14 hS
          refine ⟨fun _ => hS.tl, ?_⟩
          refine dl 3 rfl (by kernel_rfl) ?_
          refine cv cf71 hS rfl rfl rfl rfl rfl (sp_fast_Cipher_Encrypt (c) (_) (key) ((xorV (crO key nonce (n / 16)) (star key))) _ (hS.old hC List.not_mem_nil)) ?_
          intro w hS
          refine ⟨fun _ => hS.tl, ?_⟩
          refine dl 5 rfl (by kernel_rfl) ?_
          refine sa 0 ag22 hS rfl rfl rfl (BV_one _) rfl (BV_size _) (BV_size _) ?_
          intro w hS
          refine ⟨fun h => (by cases h), ?_⟩
          refine de (by kernel_rfl) ?_
          refine wq_then ?_
          refine rg ?_
          refine mv rfl rfl rfl ?_
          refine a_all Tryz.underlying22 ⟨_, sz5⟩ rfl rfl rfl ?_
          refine cs cf152 hS rfl rfl rfl rfl rfl (sp_bits_Xor ((sla a ((n / 16) * 16) cap)) ((n - ((n / 16) * 16))) ((cap - ((n / 16) * 16))) (((bs).drop ((n / 16) * 16))) ((some ⟨b14, 0, none⟩)) (16) (16) (((enc key (xorV (crO key nonce (n / 16)) (star key))).toList)) _ (by first | rfl | omega | (simp; omega) | (simp; done)) (by omega) ((hc.st hS).drop8 (lo := (n / 16) * 16) (cap := cap) (by first | omega | (simp; omega) | simp)) Vector.length_toList (by omega) (Cel.bv (hS.get 0 rfl))) ?_
          rintro _ _ w ⟨q63, rfl, rfl⟩ hS
          refine asg rfl rfl rfl ?_
          refine wq_then ?_
          refine rg ?_
          refine mv rfl rfl rfl ?_
          refine cv cf146 hS rfl rfl rfl rfl rfl (sp_block_Pad ((some ⟨q63, 0, none⟩)) ((min (n - ((n / 16) * 16)) 16)) ((min (n - ((n / 16) * 16)) 16)) ((xorb ((bs).drop ((n / 16) * 16)) ((enc key (xorV (crO key nonce (n / 16)) (star key))).toList))) _ (by rw [xorb_len]; (try simp) <;> omega) (by omega) (Cel.lb (l := xorb ((bs).drop ((n / 16) * 16)) ((enc key (xorV (crO key nonce (n / 16)) (star key))).toList)) (hS.get 0 rfl)) (by omega)) ?_
          intro w hS
          refine mv rfl rfl rfl ?_
          refine ext rfl rfl rfl rfl ?_
          refine ext rfl rfl rfl rfl ?_
          refine ala zr22 hS rfl rfl ?_
          intro b16 w hb16 hS
          refine sa 0 ag22 hS rfl rfl rfl (BV_one _) rfl (BV_size _) (BV_size _) ?_
          intro w hS
          refine asg rfl rfl rfl ?_
          refine wq_then ?_
          refine rg ?_
          refine lo 5 sc241 hS rfl rfl rfl rfl rfl ?_
          refine mv rfl rfl rfl ?_
          refine la 0 ag22 hS rfl rfl rfl rfl (BV_size _) ?_
          refine cl cf150 rfl rfl rfl rfl rfl (sp_open_Decrypt_1 (some ⟨q63, 0, none⟩) (min (n - ((n / 16) * 16)) 16) (min (n - ((n / 16) * 16)) 16) (xorb ((bs).drop ((n / 16) * 16)) ((enc key (xorV (crO key nonce (n / 16)) (star key))).toList)) (padV (xorb ((bs).drop ((n / 16) * 16)) ((enc key (xorV (crO key nonce (n / 16)) (star key))).toList))) (deC key nonce bs (n / 16)) _ _ _ _ s.1 ((n / 16) * 16) s.2.1 (deT key nonce bs (n / 16)) s.2.2 _ (by rw [xorb_len]; (try simp) <;> omega) (by omega) (Cel.lb (l := xorb ((bs).drop ((n / 16) * 16)) ((enc key (xorV (crO key nonce (n / 16)) (star key))).toList)) (hS.get 1 rfl)) (hS.get 8 rfl) (hS.get 7 rfl) hO (fun p hp => (hS.own p (by simp [hp])).2) (St.nd2 (A := [(b16, .cells (BV (padV (xorb ((bs).drop ((n / 16) * 16)) ((enc key (xorV (crO key nonce (n / 16)) (star key))).toList)))) 22), (q63, .cells (LB (xorb ((bs).drop ((n / 16) * 16)) ((enc key (xorV (crO key nonce (n / 16)) (star key))).toList))) 5), (b14, .cells (BV (enc key (xorV (crO key nonce (n / 16)) (star key)))) 22), (D, .deferred (some [])), (b23, .cells (#[(.slice a n cap)]) 30), (b9, .cells (#[.func (.func 150) #[] #[Ptr b6 0, Ptr b7 0]]) 241), (b8, .cells (BV (xorV (crO key nonce (n / 16)) (star key))) 22), (b7, .cells (BV (deC key nonce bs (n / 16))) 22), (b6, .cells (#[.slice s.1 ((n / 16) * 16) s.2.1]) 30), (b4, .cells (BV nonce) 173), (b3, .cells (#[Ptr t 0]) 77)]) (R := []) (i := 8) (j := 7) hS rfl rfl)) ?_
          rintro _ w ⟨a72, c72, X72, ⟨v72, rfl⟩, hO72, hS1⟩
          refine ⟨_, rfl, ?_⟩
          have hS : St w0 [] ([(b16, .cells (BV (padV (xorb ((bs).drop ((n / 16) * 16)) ((enc key (xorV (crO key nonce (n / 16)) (star key))).toList)))) 22), (q63, .cells (LB (xorb ((bs).drop ((n / 16) * 16)) ((enc key (xorV (crO key nonce (n / 16)) (star key))).toList))) 5), (b14, .cells (BV (enc key (xorV (crO key nonce (n / 16)) (star key)))) 22), (D, .deferred (some [])), (b23, .cells (#[(.slice a n cap)]) 30), (b9, .cells (#[.func (.func 150) #[] #[Ptr b6 0, Ptr b7 0]]) 241), (b8, .cells (BV (xorV (crO key nonce (n / 16)) (star key))) 22), (b7, .cells (BV (xorV (deC key nonce bs (n / 16)) (padV (xorb ((bs).drop ((n / 16) * 16)) ((enc key (xorV (crO key nonce (n / 16)) (star key))).toList))))) 22), (b6, .cells (#[.slice a72 (((n / 16) * 16) + (min (n - ((n / 16) * 16)) 16)) c72]) 30), (b4, .cells (BV nonce) 173), (b3, .cells (#[Ptr t 0]) 77)] ++ (X72 ++ [])) w := St.call_out2 (A := [(b16, .cells (BV (padV (xorb ((bs).drop ((n / 16) * 16)) ((enc key (xorV (crO key nonce (n / 16)) (star key))).toList)))) 22), (q63, .cells (LB (xorb ((bs).drop ((n / 16) * 16)) ((enc key (xorV (crO key nonce (n / 16)) (star key))).toList))) 5), (b14, .cells (BV (enc key (xorV (crO key nonce (n / 16)) (star key)))) 22), (D, .deferred (some [])), (b23, .cells (#[(.slice a n cap)]) 30), (b9, .cells (#[.func (.func 150) #[] #[Ptr b6 0, Ptr b7 0]]) 241), (b8, .cells (BV (xorV (crO key nonce (n / 16)) (star key))) 22), (b7, .cells (BV (deC key nonce bs (n / 16))) 22), (b6, .cells (#[.slice s.1 ((n / 16) * 16) s.2.1]) 30), (b4, .cells (BV nonce) 173), (b3, .cells (#[Ptr t 0]) 77)]) (A2 := [(b16, .cells (BV (padV (xorb ((bs).drop ((n / 16) * 16)) ((enc key (xorV (crO key nonce (n / 16)) (star key))).toList)))) 22), (q63, .cells (LB (xorb ((bs).drop ((n / 16) * 16)) ((enc key (xorV (crO key nonce (n / 16)) (star key))).toList))) 5), (b14, .cells (BV (enc key (xorV (crO key nonce (n / 16)) (star key)))) 22), (D, .deferred (some [])), (b23, .cells (#[(.slice a n cap)]) 30), (b9, .cells (#[.func (.func 150) #[] #[Ptr b6 0, Ptr b7 0]]) 241), (b8, .cells (BV (xorV (crO key nonce (n / 16)) (star key))) 22), (b7, .cells (BV (xorV (deC key nonce bs (n / 16)) (padV (xorb ((bs).drop ((n / 16) * 16)) ((enc key (xorV (crO key nonce (n / 16)) (star key))).toList))))) 22), (b6, .cells (#[.slice a72 (((n / 16) * 16) + (min (n - ((n / 16) * 16)) 16)) c72]) 30), (b4, .cells (BV nonce) 173), (b3, .cells (#[Ptr t 0]) 77)]) (i := 8) (j := 7) hS rfl rfl rfl rfl rfl hS1
          refine wq_then ?_
          refine rd mo 5 (fun w => St w0 [] ([(b16, .cells (BV (padV (xorb ((bs).drop ((n / 16) * 16)) ((enc key (xorV (crO key nonce (n / 16)) (star key))).toList)))) 22), (q63, .cells (LB (xorb ((bs).drop ((n / 16) * 16)) ((enc key (xorV (crO key nonce (n / 16)) (star key))).toList))) 5), (b14, .cells (BV (enc key (xorV (crO key nonce (n / 16)) (star key)))) 22), (D, .deferred (some [])), (b23, .cells (#[(.slice a n cap)]) 30), (b9, .cells (#[.func (.func 150) #[] #[Ptr b6 0, Ptr b7 0]]) 241), (b8, .cells (BV (xorV (crO key nonce (n / 16)) (star key))) 22), (b7, .cells (BV (xorV (deC key nonce bs (n / 16)) (padV (xorb ((bs).drop ((n / 16) * 16)) ((enc key (xorV (crO key nonce (n / 16)) (star key))).toList))))) 22), (b6, .cells (#[.slice a72 (((n / 16) * 16) + (min (n - ((n / 16) * 16)) 16)) c72]) 30), (b4, .cells (BV nonce) 173), (b3, .cells (#[Ptr t 0]) 77)] ++ (X72 ++ [])) w) ?_
          have hS := hS.drew
          refine dq 0 rfl (by kernel_rfl) (by kernel_rfl) (by kernel_rfl) rfl rfl (fun w hS => lo 8 sc30 hS rfl rfl rfl rfl rfl ⟨rfl, rfl⟩) hS ?_
          refine dq 1 rfl (by kernel_rfl) (by kernel_rfl) (by kernel_rfl) rfl rfl (fun w hS => la 7 ag22 hS rfl rfl rfl rfl (BV_size _) ⟨rfl, rfl⟩) hS ?_
          refine dq 2 rfl (by kernel_rfl) (by kernel_rfl) (by kernel_rfl) rfl rfl (fun w hS => la 6 ag22 hS rfl rfl rfl rfl (BV_size _) ⟨rfl, rfl⟩) hS ?_
          refine dl 3 rfl (by kernel_rfl) ?_
          refine st 8 sz30 hS rfl rfl rfl rfl rfl rfl Nat.zero_lt_one rfl ?_
          intro w hS
          refine ⟨fun _ => hS, ?_⟩
          refine dl 4 rfl (by kernel_rfl) ?_
          refine sa 7 ag22 hS rfl rfl rfl (BV_one _) rfl (BV_size _) (BV_size _) ?_
          intro w hS
          refine ⟨fun _ => hS, ?_⟩
          refine dl 5 rfl (by kernel_rfl) ?_
          refine sa 6 ag22 hS rfl rfl rfl (BV_one _) rfl (BV_size _) (BV_size _) ?_
          intro w hS
          refine ⟨fun h => (by cases h), ?_⟩
          refine de (by kernel_rfl) ?_
          refine wq_then ?_
          refine wc_ret ?_
          refine finM3 (v := .slice a72 (((n / 16) * 16) + (min (n - ((n / 16) * 16)) 16)) c72) (u := .agg (BV (xorV (deC key nonce bs (n / 16)) (padV (xorb ((bs).drop ((n / 16) * 16)) ((enc key (xorV (crO key nonce (n / 16)) (star key))).toList)))))) (x := .agg (BV (xorV (crO key nonce (n / 16)) (star key)))) 3 hS rfl rfl rfl (fun w hS => ⟨_, rfl, lv_c sc30 (hS.get 8 rfl) rfl⟩) (fun w hS => ⟨_, rfl, lv_a ag22 (hS.get 7 rfl) (BV_size _)⟩) (fun w hS => ⟨_, rfl, lv_a ag22 (hS.get 6 rfl) (BV_size _)⟩) (fun w hS => ?_)
          exact ⟨_, _, rfl, ⟨_, _, dec_r1 hn hz _ (by omega), dec_r2 hn hz _ (by omega) hO72⟩, hS.sublist (.cons _ (.cons _ (.cons _ (.cons _ (.cons _ (.cons _ (.cons _ (.cons _ (.cons _ (.cons _ (.cons _ (List.sublist_append_left X72 []))))))))))))⟩
      · skip
        refine ala zr22 hS rfl rfl ?_
        intro b14 w hb14 hS
        refine ⟨fun _ => hS.tl, ?_⟩
        refine dl 1 rfl (by kernel_rfl) ?_
        refine cv cf144 hS rfl rfl rfl rfl rfl (sp_table_Table_Cipher (t) (c) (key) _ (hT.st hS)) ?_
        intro w hS
        refine ⟨fun _ => hS.tl, ?_⟩
        refine dl 3 rfl (by kernel_rfl) ?_
        refine cv cf71 hS rfl rfl rfl rfl rfl (sp_fast_Cipher_Encrypt (c) (_) (key) ((xorV (crO key nonce (n / 16)) (star key))) _ (hS.old hC List.not_mem_nil)) ?_
        intro w hS
        refine ⟨fun _ => hS.tl, ?_⟩
        refine dl 5 rfl (by kernel_rfl) ?_
        refine sa 0 ag22 hS rfl rfl rfl (BV_one _) rfl (BV_size _) (BV_size _) ?_
        intro w hS
        refine ⟨fun h => (by cases h), ?_⟩
        refine de (by kernel_rfl) ?_
        refine wq_then ?_
        refine rg ?_
        refine mv rfl rfl rfl ?_
        refine a_all Tryz.underlying22 ⟨_, sz5⟩ rfl rfl rfl ?_
        refine cs cf152 hS rfl rfl rfl rfl rfl (sp_bits_Xor ((sla a ((n / 16) * 16) cap)) ((n - ((n / 16) * 16))) ((cap - ((n / 16) * 16))) (((bs).drop ((n / 16) * 16))) ((some ⟨b14, 0, none⟩)) (16) (16) (((enc key (xorV (crO key nonce (n / 16)) (star key))).toList)) _ (by first | rfl | omega | (simp; omega) | (simp; done)) (by omega) ((hc.st hS).drop8 (lo := (n / 16) * 16) (cap := cap) (by first | omega | (simp; omega) | simp)) Vector.length_toList (by omega) (Cel.bv (hS.get 0 rfl))) ?_
        rintro _ _ w ⟨q63, rfl, rfl⟩ hS
        refine asg rfl rfl rfl ?_
        refine wq_then ?_
        refine rg ?_
        refine mv rfl rfl rfl ?_
        refine cv cf146 hS rfl rfl rfl rfl rfl (sp_block_Pad ((some ⟨q63, 0, none⟩)) ((min (n - ((n / 16) * 16)) 16)) ((min (n - ((n / 16) * 16)) 16)) ((xorb ((bs).drop ((n / 16) * 16)) ((enc key (xorV (crO key nonce (n / 16)) (star key))).toList))) _ (by rw [xorb_len]; (try simp) <;> omega) (by omega) (Cel.lb (l := xorb ((bs).drop ((n / 16) * 16)) ((enc key (xorV (crO key nonce (n / 16)) (star key))).toList)) (hS.get 0 rfl)) (by omega)) ?_
        intro w hS
        refine mv rfl rfl rfl ?_
        refine ext rfl rfl rfl rfl ?_
        refine ext rfl rfl rfl rfl ?_
        refine ala zr22 hS rfl rfl ?_
        intro b16 w hb16 hS
        refine sa 0 ag22 hS rfl rfl rfl (BV_one _) rfl (BV_size _) (BV_size _) ?_
        intro w hS
        refine asg rfl rfl rfl ?_
        refine wq_then ?_
        refine rg ?_
        refine lo 5 sc241 hS rfl rfl rfl rfl rfl ?_
        refine mv rfl rfl rfl ?_
        refine la 0 ag22 hS rfl rfl rfl rfl (BV_size _) ?_
        refine cl cf150 rfl rfl rfl rfl rfl (sp_open_Decrypt_1 (some ⟨q63, 0, none⟩) (min (n - ((n / 16) * 16)) 16) (min (n - ((n / 16) * 16)) 16) (xorb ((bs).drop ((n / 16) * 16)) ((enc key (xorV (crO key nonce (n / 16)) (star key))).toList)) (padV (xorb ((bs).drop ((n / 16) * 16)) ((enc key (xorV (crO key nonce (n / 16)) (star key))).toList))) (deC key nonce bs (n / 16)) _ _ _ _ s.1 ((n / 16) * 16) s.2.1 (deT key nonce bs (n / 16)) s.2.2 _ (by rw [xorb_len]; (try simp) <;> omega) (by omega) (Cel.lb (l := xorb ((bs).drop ((n / 16) * 16)) ((enc key (xorV (crO key nonce (n / 16)) (star key))).toList)) (hS.get 1 rfl)) (hS.get 8 rfl) (hS.get 7 rfl) hO (fun p hp => (hS.own p (by simp [hp])).2) (St.nd2 (A := [(b16, .cells (BV (padV (xorb ((bs).drop ((n / 16) * 16)) ((enc key (xorV (crO key nonce (n / 16)) (star key))).toList)))) 22), (q63, .cells (LB (xorb ((bs).drop ((n / 16) * 16)) ((enc key (xorV (crO key nonce (n / 16)) (star key))).toList))) 5), (b14, .cells (BV (enc key (xorV (crO key nonce (n / 16)) (star key)))) 22), (D, .deferred (some [])), (b23, .cells (#[(.slice a n cap)]) 30), (b9, .cells (#[.func (.func 150) #[] #[Ptr b6 0, Ptr b7 0]]) 241), (b8, .cells (BV (xorV (crO key nonce (n / 16)) (star key))) 22), (b7, .cells (BV (deC key nonce bs (n / 16))) 22), (b6, .cells (#[.slice s.1 ((n / 16) * 16) s.2.1]) 30), (b4, .cells (BV nonce) 173), (b3, .cells (#[Ptr t 0]) 77)]) (R := []) (i := 8) (j := 7) hS rfl rfl)) ?_
        rintro _ w ⟨a72, c72, X72, ⟨v72, rfl⟩, hO72, hS1⟩
        refine ⟨_, rfl, ?_⟩
        have hS : St w0 [] ([(b16, .cells (BV (padV (xorb ((bs).drop ((n / 16) * 16)) ((enc key (xorV (crO key nonce (n / 16)) (star key))).toList)))) 22), (q63, .cells (LB (xorb ((bs).drop ((n / 16) * 16)) ((enc key (xorV (crO key nonce (n / 16)) (star key))).toList))) 5), (b14, .cells (BV (enc key (xorV (crO key nonce (n / 16)) (star key)))) 22), (D, .deferred (some [])), (b23, .cells (#[(.slice a n cap)]) 30), (b9, .cells (#[.func (.func 150) #[] #[Ptr b6 0, Ptr b7 0]]) 241), (b8, .cells (BV (xorV (crO key nonce (n / 16)) (star key))) 22), (b7, .cells (BV (xorV (deC key nonce bs (n / 16)) (padV (xorb ((bs).drop ((n / 16) * 16)) ((enc key (xorV (crO key nonce (n / 16)) (star key))).toList))))) 22), (b6, .cells (#[.slice a72 (((n / 16) * 16) + (min (n - ((n / 16) * 16)) 16)) c72]) 30), (b4, .cells (BV nonce) 173), (b3, .cells (#[Ptr t 0]) 77)] ++ (X72 ++ [])) w := St.call_out2 (A := [(b16, .cells (BV (padV (xorb ((bs).drop ((n / 16) * 16)) ((enc key (xorV (crO key nonce (n / 16)) (star key))).toList)))) 22), (q63, .cells (LB (xorb ((bs).drop ((n / 16) * 16)) ((enc key (xorV (crO key nonce (n / 16)) (star key))).toList))) 5), (b14, .cells (BV (enc key (xorV (crO key nonce (n / 16)) (star key)))) 22), (D, .deferred (some [])), (b23, .cells (#[(.slice a n cap)]) 30), (b9, .cells (#[.func (.func 150) #[] #[Ptr b6 0, Ptr b7 0]]) 241), (b8, .cells (BV (xorV (crO key nonce (n / 16)) (star key))) 22), (b7, .cells (BV (deC key nonce bs (n / 16))) 22), (b6, .cells (#[.slice s.1 ((n / 16) * 16) s.2.1]) 30), (b4, .cells (BV nonce) 173), (b3, .cells (#[Ptr t 0]) 77)]) (A2 := [(b16, .cells (BV (padV (xorb ((bs).drop ((n / 16) * 16)) ((enc key (xorV (crO key nonce (n / 16)) (star key))).toList)))) 22), (q63, .cells (LB (xorb ((bs).drop ((n / 16) * 16)) ((enc key (xorV (crO key nonce (n / 16)) (star key))).toList))) 5), (b14, .cells (BV (enc key (xorV (crO key nonce (n / 16)) (star key)))) 22), (D, .deferred (some [])), (b23, .cells (#[(.slice a n cap)]) 30), (b9, .cells (#[.func (.func 150) #[] #[Ptr b6 0, Ptr b7 0]]) 241), (b8, .cells (BV (xorV (crO key nonce (n / 16)) (star key))) 22), (b7, .cells (BV (xorV (deC key nonce bs (n / 16)) (padV (xorb ((bs).drop ((n / 16) * 16)) ((enc key (xorV (crO key nonce (n / 16)) (star key))).toList))))) 22), (b6, .cells (#[.slice a72 (((n / 16) * 16) + (min (n - ((n / 16) * 16)) 16)) c72]) 30), (b4, .cells (BV nonce) 173), (b3, .cells (#[Ptr t 0]) 77)]) (i := 8) (j := 7) hS rfl rfl rfl rfl rfl hS1
        refine wq_then ?_
        refine rd mo 5 (fun w => St w0 [] ([(b16, .cells (BV (padV (xorb ((bs).drop ((n / 16) * 16)) ((enc key (xorV (crO key nonce (n / 16)) (star key))).toList)))) 22), (q63, .cells (LB (xorb ((bs).drop ((n / 16) * 16)) ((enc key (xorV (crO key nonce (n / 16)) (star key))).toList))) 5), (b14, .cells (BV (enc key (xorV (crO key nonce (n / 16)) (star key)))) 22), (D, .deferred (some [])), (b23, .cells (#[(.slice a n cap)]) 30), (b9, .cells (#[.func (.func 150) #[] #[Ptr b6 0, Ptr b7 0]]) 241), (b8, .cells (BV (xorV (crO key nonce (n / 16)) (star key))) 22), (b7, .cells (BV (xorV (deC key nonce bs (n / 16)) (padV (xorb ((bs).drop ((n / 16) * 16)) ((enc key (xorV (crO key nonce (n / 16)) (star key))).toList))))) 22), (b6, .cells (#[.slice a72 (((n / 16) * 16) + (min (n - ((n / 16) * 16)) 16)) c72]) 30), (b4, .cells (BV nonce) 173), (b3, .cells (#[Ptr t 0]) 77)] ++ (X72 ++ [])) w) ?_
        have hS := hS.drew
        refine dq 0 rfl (by kernel_rfl) (by kernel_rfl) (by kernel_rfl) rfl rfl (fun w hS => lo 8 sc30 hS rfl rfl rfl rfl rfl ⟨rfl, rfl⟩) hS ?_
        refine dq 1 rfl (by kernel_rfl) (by kernel_rfl) (by kernel_rfl) rfl rfl (fun w hS => la 7 ag22 hS rfl rfl rfl rfl (BV_size _) ⟨rfl, rfl⟩) hS ?_
        refine dq 2 rfl (by kernel_rfl) (by kernel_rfl) (by kernel_rfl) rfl rfl (fun w hS => la 6 ag22 hS rfl rfl rfl rfl (BV_size _) ⟨rfl, rfl⟩) hS ?_
        refine dl 3 rfl (by kernel_rfl) ?_
        refine st 8 sz30 hS rfl rfl rfl rfl rfl rfl Nat.zero_lt_one rfl ?_
        intro w hS
        refine ⟨fun _ => hS, ?_⟩
        refine dl 4 rfl (by kernel_rfl) ?_
        refine sa 7 ag22 hS rfl rfl rfl (BV_one _) rfl (BV_size _) (BV_size _) ?_
        intro w hS
        refine ⟨fun _ => hS, ?_⟩
        refine dl 5 rfl (by kernel_rfl) ?_
        refine sa 6 ag22 hS rfl rfl rfl (BV_one _) rfl (BV_size _) (BV_size _) ?_
        intro w hS
        refine ⟨fun h => (by cases h), ?_⟩
        refine de (by kernel_rfl) ?_
        refine wq_then ?_
        refine wc_ret ?_
        refine finM3 (v := .slice a72 (((n / 16) * 16) + (min (n - ((n / 16) * 16)) 16)) c72) (u := .agg (BV (xorV (deC key nonce bs (n / 16)) (padV (xorb ((bs).drop ((n / 16) * 16)) ((enc key (xorV (crO key nonce (n / 16)) (star key))).toList)))))) (x := .agg (BV (xorV (crO key nonce (n / 16)) (star key)))) 3 hS rfl rfl rfl (fun w hS => ⟨_, rfl, lv_c sc30 (hS.get 8 rfl) rfl⟩) (fun w hS => ⟨_, rfl, lv_a ag22 (hS.get 7 rfl) (BV_size _)⟩) (fun w hS => ⟨_, rfl, lv_a ag22 (hS.get 6 rfl) (BV_size _)⟩) (fun w hS => ?_)
        exact ⟨_, _, rfl, ⟨_, _, dec_r1 hn hz _ (by omega), dec_r2 hn hz _ (by omega) hO72⟩, hS.sublist (.cons _ (.cons _ (.cons _ (.cons _ (.cons _ (.cons _ (.cons _ (.cons _ (.cons _ (.cons _ (.cons _ (List.sublist_append_left X72 []))))))))))))⟩
end Go.Proofs.XS

/- walks -/
namespace Go.Proofs.XS
open Go Go.X Go.Proofs
set_option maxRecDepth 100000 in
theorem sp_open_Open (t c : Nat) (key : V8 16) (nonce : V8 12) (a : Option Addr) (n cap : Nat) (bs : List UInt8) (a2 : Option Addr) (n2 cap2 : Nat) (bs2 : List UInt8) (w0 : World) (hT : TabAt w0 t c key) (hn : bs.length = n) (hN : n ≤ 1000000) (hc : Cel w0 a (c8 bs)) (hcap : n ≤ cap) (hn2 : bs2.length = n2) (hN2 : n2 ≤ 1000000) (he2 : Cel w0 a2 (c8 bs2)) (hcap2 : n2 ≤ cap2) (hG : Gl 1 w0) : Calls Tryz.prog 90 #[Ptr t 0, .agg (BV nonce), .slice a2 n2 cap2, .slice a n cap] w0 (RetS w0 (fun v X => ∃ a' n' c', v = .tuple #[.slice a' n' c', errV 33 (opnE key nonce bs2 bs)] ∧ Own 1 a' n' c' (c8 (if opnE key nonce bs2 bs = 0 then opnT key nonce bs else [])) X)) := by
  refine enter (args := [Ptr t 0, .agg (BV nonce), .slice a2 n2 cap2, .slice a n cap]) Tryz.func90 rfl rfl ?_
  refine startw fun w hS => ?_
  obtain ⟨⟨T, hT1⟩, E, hC⟩ := id hT
  refine rg ?_
  refine bxa hS rfl rfl rfl ?_
  intro b5 w hb5 hS
  refine asg rfl rfl rfl ?_
  refine asg rfl rfl rfl ?_
  refine wq_then ?_
  refine rg ?_
  refine mv rfl rfl rfl ?_
  refine lens Tryz.underlying30 rfl rfl rfl ?_
  refine subi (by omega) (by omega) rfl rfl rfl rfl ?_
  refine asg rfl rfl rfl ?_
  refine wq_then ?_
  refine wc_seq ?_
  refine rg ?_
  refine mv rfl rfl rfl ?_
  refine lss rfl rfl rfl rfl ?_
  refine wq_then ?_
  refine wc_if rfl (fun hc1 => ?_) (fun hc1 => ?_)
  · skip
    try simp only [SB] at hc1
    refine rg ?_
    refine mki cc33 rfl rfl rfl ?_
    refine asg rfl rfl rfl ?_
    refine asg rfl rfl rfl ?_
    refine wq_then ?_
    refine wc_ret ?_
    refine q_then_ret ?_
    refine fin2 (v := (.slice none 0 0)) (u := (.iface 33 (I (1)))) rfl rfl rfl ?_
    have he : opnE key nonce bs2 bs = 1 := opnE_s hn (by omega)
    exact ⟨_, [], rfl, ⟨none, 0, 0, opn_e (by decide) he, opn_o (by decide) he⟩, hS.drop⟩
  · skip
    try simp only [SB] at hc1
    refine wc_skip ?_
    refine wq_then ?_
    refine sqj (fun l w => ∃ (a27 : Option Addr) (c27 : Nat) (X27 : List (Nat × Obj)) (b12 : Nat) (b13 : Nat), (Own 1 a27 ((n - 16)) c27 (c8 (decT key nonce ((bs).take (n - 16)))) X27) ∧ l = [(0, Ptr t 0), (2, .slice a2 n2 cap2), (3, .slice a n cap), (8, (.slice none 0 0)), (9, .nilIface), (10, I (((n : Nat) : Int) - 16)), (11, .slice a27 (n - 16) c27), (12, Ptr b12 0), (13, Ptr b13 0)] ∧ St w0 [] ([(b13, .cells (BV (cryO key nonce (n - 16))) 22), (b12, .cells (BV (decC key nonce ((bs).take (n - 16)))) 22), (b5, .cells (BV nonce) 173)] ++ (X27 ++ [])) w) ?_ ?_
    · skip
      refine wc_draw mo 14 (fun w => St w0 [] [(b5, .cells (BV nonce) 173)] w) ?_
      have hS := hS.drew
      refine dq 0 rfl (by kernel_rfl) (by kernel_rfl) (by kernel_rfl) rfl rfl (fun w hS => mv rfl rfl rfl ⟨rfl, rfl⟩) hS ?_
      refine dq 1 rfl (by kernel_rfl) (by kernel_rfl) (by kernel_rfl) rfl rfl (fun w hS => la 0 ag173 hS rfl rfl rfl rfl (BV_size _) ⟨rfl, rfl⟩) hS ?_
      refine dq 2 rfl (by kernel_rfl) (by kernel_rfl) (by kernel_rfl) rfl rfl (fun w hS => mv rfl rfl rfl ⟨rfl, rfl⟩) hS ?_
      refine dq 3 rfl (by kernel_rfl) (by kernel_rfl) (by kernel_rfl) rfl rfl (fun w hS => mv rfl rfl rfl ⟨rfl, rfl⟩) hS ?_
      refine dq 4 rfl (by kernel_rfl) (by kernel_rfl) (by kernel_rfl) rfl rfl (fun w hS => s_h ((n - 16)) Tryz.underlying30 ⟨_, sz5⟩ rfl rfl rfl rfl (by omega) (by omega) ⟨rfl, rfl⟩) hS ?_
      refine dl3 5 10 11 rfl rfl rfl (by kernel_rfl) ?_ ?_ ?_
      · skip
        refine cs cf121 hS rfl rfl rfl rfl rfl (sp_open_Decrypt (t) (c) (key) (nonce) (a) ((n - 16)) (cap) (((bs).take (n - 16))) _ (hT.st hS) (by first | rfl | omega | (simp; omega) | (simp; done)) (by omega) ((hc.st hS).take8 (n - 16)) (by omega) (hG.st hS)) ?_
        rintro _ X27 w ⟨a27, c27, rfl, hO27⟩ hS
        have hS := St.tailin (X := X27) hS [(b5, .cells (BV nonce) 173)] [] rfl
        refine ⟨fun _ => (St.untail (A := [(b5, .cells (BV nonce) 173)]) (X := X27) (R := []) hS), ?_⟩
        refine dq 6 rfl (by kernel_rfl) (by kernel_rfl) (by kernel_rfl) rfl rfl (fun w hS => mv rfl rfl rfl ⟨rfl, rfl⟩) (St.untail (A := [(b5, .cells (BV nonce) 173)]) (X := X27) (R := []) hS) ?_
        refine dq 7 rfl (by kernel_rfl) (by kernel_rfl) (by kernel_rfl) rfl rfl (fun w hS => ext rfl rfl rfl rfl ⟨rfl, rfl⟩) (St.untail (A := [(b5, .cells (BV nonce) 173)]) (X := X27) (R := []) hS) ?_
        refine dq 8 rfl (by kernel_rfl) (by kernel_rfl) (by kernel_rfl) rfl rfl (fun w hS => ext rfl rfl rfl rfl ⟨rfl, rfl⟩) (St.untail (A := [(b5, .cells (BV nonce) 173)]) (X := X27) (R := []) hS) ?_
        refine dq 9 rfl (by kernel_rfl) (by kernel_rfl) (by kernel_rfl) rfl rfl (fun w hS => ext rfl rfl rfl rfl ⟨rfl, rfl⟩) (St.untail (A := [(b5, .cells (BV nonce) 173)]) (X := X27) (R := []) hS) ?_
        refine dl2 10 11 rfl rfl (by kernel_rfl) ?_ ?_
        · skip
          refine ala zr22 hS rfl rfl ?_
          intro b12 w hb12 hS
          refine ⟨fun _ => (St.untail (A := [(b12, .cells (BV (Vector.replicate 16 0)) 22), (b5, .cells (BV nonce) 173)]) (X := X27) (R := []) hS).tl, ?_⟩
          refine dl 11 rfl (by kernel_rfl) ?_
          refine ala zr22 hS rfl rfl ?_
          intro b13 w hb13 hS
          refine ⟨fun _ => (St.untail (A := [(b13, .cells (BV (Vector.replicate 16 0)) 22), (b12, .cells (BV (Vector.replicate 16 0)) 22), (b5, .cells (BV nonce) 173)]) (X := X27) (R := []) hS).tl.tl, ?_⟩
          refine dq 12 rfl (by kernel_rfl) (by kernel_rfl) (by kernel_rfl) rfl rfl (fun w hS => asg rfl rfl rfl ⟨rfl, rfl⟩) (St.untail (A := [(b13, .cells (BV (Vector.replicate 16 0)) 22), (b12, .cells (BV (Vector.replicate 16 0)) 22), (b5, .cells (BV nonce) 173)]) (X := X27) (R := []) hS).tl.tl ?_
          refine dl 13 rfl (by kernel_rfl) ?_
          refine sa 1 ag22 hS rfl rfl rfl (BV_one _) rfl (BV_size _) (BV_size _) ?_
          intro w hS
          refine ⟨fun _ => (St.untail (A := [(b13, .cells (BV (Vector.replicate 16 0)) 22), (b12, .cells (BV (decC key nonce ((bs).take (n - 16)))) 22), (b5, .cells (BV nonce) 173)]) (X := X27) (R := []) hS).tl.tl, ?_⟩
          refine dl 14 rfl (by kernel_rfl) ?_
          refine sa 0 ag22 hS rfl rfl rfl (BV_one _) rfl (BV_size _) (BV_size _) ?_
          intro w hS
          refine ⟨fun h => (by cases h), ?_⟩
          refine de (by kernel_rfl) ?_
          exact mmq ⟨a27, c27, X27, b12, b13, hO27, rfl, hS⟩ ⟨rfl, rfl, rfl, rfl, rfl, rfl, rfl, rfl, rfl, trivial⟩
        · skip
          refine ala zr22 hS rfl rfl ?_
          intro b13 w hb13 hS
          refine ⟨fun _ => (St.untail (A := [(b13, .cells (BV (Vector.replicate 16 0)) 22), (b5, .cells (BV nonce) 173)]) (X := X27) (R := []) hS).tl, ?_⟩
          refine dl 10 rfl (by kernel_rfl) ?_
          refine ala zr22 hS rfl rfl ?_
          intro b12 w hb12 hS
          refine ⟨fun _ => (St.untail (A := [(b12, .cells (BV (Vector.replicate 16 0)) 22), (b13, .cells (BV (Vector.replicate 16 0)) 22), (b5, .cells (BV nonce) 173)]) (X := X27) (R := []) hS).tl.tl, ?_⟩
          refine dq 12 rfl (by kernel_rfl) (by kernel_rfl) (by kernel_rfl) rfl rfl (fun w hS => asg rfl rfl rfl ⟨rfl, rfl⟩) (St.untail (A := [(b12, .cells (BV (Vector.replicate 16 0)) 22), (b13, .cells (BV (Vector.replicate 16 0)) 22), (b5, .cells (BV nonce) 173)]) (X := X27) (R := []) hS).tl.tl ?_
          refine dl 13 rfl (by kernel_rfl) ?_
          refine sa 0 ag22 hS rfl rfl rfl (BV_one _) rfl (BV_size _) (BV_size _) ?_
          intro w hS
          refine ⟨fun _ => (St.untail (A := [(b12, .cells (BV (decC key nonce ((bs).take (n - 16)))) 22), (b13, .cells (BV (Vector.replicate 16 0)) 22), (b5, .cells (BV nonce) 173)]) (X := X27) (R := []) hS).tl.tl, ?_⟩
          refine dl 14 rfl (by kernel_rfl) ?_
          refine sa 1 ag22 hS rfl rfl rfl (BV_one _) rfl (BV_size _) (BV_size _) ?_
          intro w hS
          refine ⟨fun h => (by cases h), ?_⟩
          refine de (by kernel_rfl) ?_
          exact mmq ⟨a27, c27, X27, b12, b13, hO27, rfl, St.prm (A := [(b12, .cells (BV (decC key nonce ((bs).take (n - 16)))) 22), (b13, .cells (BV (cryO key nonce (n - 16))) 22), (b5, .cells (BV nonce) 173)]) (B := [(b13, .cells (BV (cryO key nonce (n - 16))) 22), (b12, .cells (BV (decC key nonce ((bs).take (n - 16)))) 22), (b5, .cells (BV nonce) 173)]) (R := (X27 ++ [])) hS [1, 0, 2] (by decide) rfl⟩ ⟨rfl, rfl, rfl, rfl, rfl, rfl, rfl, rfl, rfl, trivial⟩
      · skip
        refine ala zr22 hS rfl rfl ?_
        intro b12 w hb12 hS
        refine ⟨fun _ => hS.tl, ?_⟩
        refine dl2 5 11 rfl rfl (by kernel_rfl) ?_ ?_
        · skip
          refine cs cf121 hS rfl rfl rfl rfl rfl (sp_open_Decrypt (t) (c) (key) (nonce) (a) ((n - 16)) (cap) (((bs).take (n - 16))) _ (hT.st hS) (by first | rfl | omega | (simp; omega) | (simp; done)) (by omega) ((hc.st hS).take8 (n - 16)) (by omega) (hG.st hS)) ?_
          rintro _ X27 w ⟨a27, c27, rfl, hO27⟩ hS
          have hS := St.tailin (X := X27) hS [(b12, .cells (BV (Vector.replicate 16 0)) 22), (b5, .cells (BV nonce) 173)] [] rfl
          refine ⟨fun _ => (St.untail (A := [(b12, .cells (BV (Vector.replicate 16 0)) 22), (b5, .cells (BV nonce) 173)]) (X := X27) (R := []) hS).tl, ?_⟩
          refine dq 6 rfl (by kernel_rfl) (by kernel_rfl) (by kernel_rfl) rfl rfl (fun w hS => mv rfl rfl rfl ⟨rfl, rfl⟩) (St.untail (A := [(b12, .cells (BV (Vector.replicate 16 0)) 22), (b5, .cells (BV nonce) 173)]) (X := X27) (R := []) hS).tl ?_
          refine dq 7 rfl (by kernel_rfl) (by kernel_rfl) (by kernel_rfl) rfl rfl (fun w hS => ext rfl rfl rfl rfl ⟨rfl, rfl⟩) (St.untail (A := [(b12, .cells (BV (Vector.replicate 16 0)) 22), (b5, .cells (BV nonce) 173)]) (X := X27) (R := []) hS).tl ?_
          refine dq 8 rfl (by kernel_rfl) (by kernel_rfl) (by kernel_rfl) rfl rfl (fun w hS => ext rfl rfl rfl rfl ⟨rfl, rfl⟩) (St.untail (A := [(b12, .cells (BV (Vector.replicate 16 0)) 22), (b5, .cells (BV nonce) 173)]) (X := X27) (R := []) hS).tl ?_
          refine dq 9 rfl (by kernel_rfl) (by kernel_rfl) (by kernel_rfl) rfl rfl (fun w hS => ext rfl rfl rfl rfl ⟨rfl, rfl⟩) (St.untail (A := [(b12, .cells (BV (Vector.replicate 16 0)) 22), (b5, .cells (BV nonce) 173)]) (X := X27) (R := []) hS).tl ?_
          refine dl 11 rfl (by kernel_rfl) ?_
          refine ala zr22 hS rfl rfl ?_
          intro b13 w hb13 hS
          refine ⟨fun _ => (St.untail (A := [(b13, .cells (BV (Vector.replicate 16 0)) 22), (b12, .cells (BV (Vector.replicate 16 0)) 22), (b5, .cells (BV nonce) 173)]) (X := X27) (R := []) hS).tl.tl, ?_⟩
          refine dq 12 rfl (by kernel_rfl) (by kernel_rfl) (by kernel_rfl) rfl rfl (fun w hS => asg rfl rfl rfl ⟨rfl, rfl⟩) (St.untail (A := [(b13, .cells (BV (Vector.replicate 16 0)) 22), (b12, .cells (BV (Vector.replicate 16 0)) 22), (b5, .cells (BV nonce) 173)]) (X := X27) (R := []) hS).tl.tl ?_
          refine dl 13 rfl (by kernel_rfl) ?_
          refine sa 1 ag22 hS rfl rfl rfl (BV_one _) rfl (BV_size _) (BV_size _) ?_
          intro w hS
          refine ⟨fun _ => (St.untail (A := [(b13, .cells (BV (Vector.replicate 16 0)) 22), (b12, .cells (BV (decC key nonce ((bs).take (n - 16)))) 22), (b5, .cells (BV nonce) 173)]) (X := X27) (R := []) hS).tl.tl, ?_⟩
          refine dl 14 rfl (by kernel_rfl) ?_
          refine sa 0 ag22 hS rfl rfl rfl (BV_one _) rfl (BV_size _) (BV_size _) ?_
          intro w hS
          refine ⟨fun h => (by cases h), ?_⟩
          refine de (by kernel_rfl) ?_
          exact mmq ⟨a27, c27, X27, b12, b13, hO27, rfl, hS⟩ ⟨rfl, rfl, rfl, rfl, rfl, rfl, rfl, rfl, rfl, trivial⟩
        · skip
          refine ala zr22 hS rfl rfl ?_
          intro b13 w hb13 hS
          refine ⟨fun _ => hS.tl.tl, ?_⟩
          refine dl 5 rfl (by kernel_rfl) ?_
          refine cs cf121 hS rfl rfl rfl rfl rfl (sp_open_Decrypt (t) (c) (key) (nonce) (a) ((n - 16)) (cap) (((bs).take (n - 16))) _ (hT.st hS) (by first | rfl | omega | (simp; omega) | (simp; done)) (by omega) ((hc.st hS).take8 (n - 16)) (by omega) (hG.st hS)) ?_
          rintro _ X27 w ⟨a27, c27, rfl, hO27⟩ hS
          have hS := St.tailin (X := X27) hS [(b13, .cells (BV (Vector.replicate 16 0)) 22), (b12, .cells (BV (Vector.replicate 16 0)) 22), (b5, .cells (BV nonce) 173)] [] rfl
          refine ⟨fun _ => (St.untail (A := [(b13, .cells (BV (Vector.replicate 16 0)) 22), (b12, .cells (BV (Vector.replicate 16 0)) 22), (b5, .cells (BV nonce) 173)]) (X := X27) (R := []) hS).tl.tl, ?_⟩
          refine dq 6 rfl (by kernel_rfl) (by kernel_rfl) (by kernel_rfl) rfl rfl (fun w hS => mv rfl rfl rfl ⟨rfl, rfl⟩) (St.untail (A := [(b13, .cells (BV (Vector.replicate 16 0)) 22), (b12, .cells (BV (Vector.replicate 16 0)) 22), (b5, .cells (BV nonce) 173)]) (X := X27) (R := []) hS).tl.tl ?_
          refine dq 7 rfl (by kernel_rfl) (by kernel_rfl) (by kernel_rfl) rfl rfl (fun w hS => ext rfl rfl rfl rfl ⟨rfl, rfl⟩) (St.untail (A := [(b13, .cells (BV (Vector.replicate 16 0)) 22), (b12, .cells (BV (Vector.replicate 16 0)) 22), (b5, .cells (BV nonce) 173)]) (X := X27) (R := []) hS).tl.tl ?_
          refine dq 8 rfl (by kernel_rfl) (by kernel_rfl) (by kernel_rfl) rfl rfl (fun w hS => ext rfl rfl rfl rfl ⟨rfl, rfl⟩) (St.untail (A := [(b13, .cells (BV (Vector.replicate 16 0)) 22), (b12, .cells (BV (Vector.replicate 16 0)) 22), (b5, .cells (BV nonce) 173)]) (X := X27) (R := []) hS).tl.tl ?_
          refine dq 9 rfl (by kernel_rfl) (by kernel_rfl) (by kernel_rfl) rfl rfl (fun w hS => ext rfl rfl rfl rfl ⟨rfl, rfl⟩) (St.untail (A := [(b13, .cells (BV (Vector.replicate 16 0)) 22), (b12, .cells (BV (Vector.replicate 16 0)) 22), (b5, .cells (BV nonce) 173)]) (X := X27) (R := []) hS).tl.tl ?_
          refine dq 12 rfl (by kernel_rfl) (by kernel_rfl) (by kernel_rfl) rfl rfl (fun w hS => asg rfl rfl rfl ⟨rfl, rfl⟩) (St.untail (A := [(b13, .cells (BV (Vector.replicate 16 0)) 22), (b12, .cells (BV (Vector.replicate 16 0)) 22), (b5, .cells (BV nonce) 173)]) (X := X27) (R := []) hS).tl.tl ?_
          refine dl 13 rfl (by kernel_rfl) ?_
          refine sa 1 ag22 hS rfl rfl rfl (BV_one _) rfl (BV_size _) (BV_size _) ?_
          intro w hS
          refine ⟨fun _ => (St.untail (A := [(b13, .cells (BV (Vector.replicate 16 0)) 22), (b12, .cells (BV (decC key nonce ((bs).take (n - 16)))) 22), (b5, .cells (BV nonce) 173)]) (X := X27) (R := []) hS).tl.tl, ?_⟩
          refine dl 14 rfl (by kernel_rfl) ?_
          refine sa 0 ag22 hS rfl rfl rfl (BV_one _) rfl (BV_size _) (BV_size _) ?_
          intro w hS
          refine ⟨fun h => (by cases h), ?_⟩
          refine de (by kernel_rfl) ?_
          exact mmq ⟨a27, c27, X27, b12, b13, hO27, rfl, hS⟩ ⟨rfl, rfl, rfl, rfl, rfl, rfl, rfl, rfl, rfl, trivial⟩
      · skip
        refine ala zr22 hS rfl rfl ?_
        intro b13 w hb13 hS
        refine ⟨fun _ => hS.tl, ?_⟩
        refine dl2 5 10 rfl rfl (by kernel_rfl) ?_ ?_
        · skip
          refine cs cf121 hS rfl rfl rfl rfl rfl (sp_open_Decrypt (t) (c) (key) (nonce) (a) ((n - 16)) (cap) (((bs).take (n - 16))) _ (hT.st hS) (by first | rfl | omega | (simp; omega) | (simp; done)) (by omega) ((hc.st hS).take8 (n - 16)) (by omega) (hG.st hS)) ?_
          rintro _ X27 w ⟨a27, c27, rfl, hO27⟩ hS
          have hS := St.tailin (X := X27) hS [(b13, .cells (BV (Vector.replicate 16 0)) 22), (b5, .cells (BV nonce) 173)] [] rfl
          refine ⟨fun _ => (St.untail (A := [(b13, .cells (BV (Vector.replicate 16 0)) 22), (b5, .cells (BV nonce) 173)]) (X := X27) (R := []) hS).tl, ?_⟩
          refine dq 6 rfl (by kernel_rfl) (by kernel_rfl) (by kernel_rfl) rfl rfl (fun w hS => mv rfl rfl rfl ⟨rfl, rfl⟩) (St.untail (A := [(b13, .cells (BV (Vector.replicate 16 0)) 22), (b5, .cells (BV nonce) 173)]) (X := X27) (R := []) hS).tl ?_
          refine dq 7 rfl (by kernel_rfl) (by kernel_rfl) (by kernel_rfl) rfl rfl (fun w hS => ext rfl rfl rfl rfl ⟨rfl, rfl⟩) (St.untail (A := [(b13, .cells (BV (Vector.replicate 16 0)) 22), (b5, .cells (BV nonce) 173)]) (X := X27) (R := []) hS).tl ?_
          refine dq 8 rfl (by kernel_rfl) (by kernel_rfl) (by kernel_rfl) rfl rfl (fun w hS => ext rfl rfl rfl rfl ⟨rfl, rfl⟩) (St.untail (A := [(b13, .cells (BV (Vector.replicate 16 0)) 22), (b5, .cells (BV nonce) 173)]) (X := X27) (R := []) hS).tl ?_
          refine dq 9 rfl (by kernel_rfl) (by kernel_rfl) (by kernel_rfl) rfl rfl (fun w hS => ext rfl rfl rfl rfl ⟨rfl, rfl⟩) (St.untail (A := [(b13, .cells (BV (Vector.replicate 16 0)) 22), (b5, .cells (BV nonce) 173)]) (X := X27) (R := []) hS).tl ?_
          refine dl 10 rfl (by kernel_rfl) ?_
          refine ala zr22 hS rfl rfl ?_
          intro b12 w hb12 hS
          refine ⟨fun _ => (St.untail (A := [(b12, .cells (BV (Vector.replicate 16 0)) 22), (b13, .cells (BV (Vector.replicate 16 0)) 22), (b5, .cells (BV nonce) 173)]) (X := X27) (R := []) hS).tl.tl, ?_⟩
          refine dq 12 rfl (by kernel_rfl) (by kernel_rfl) (by kernel_rfl) rfl rfl (fun w hS => asg rfl rfl rfl ⟨rfl, rfl⟩) (St.untail (A := [(b12, .cells (BV (Vector.replicate 16 0)) 22), (b13, .cells (BV (Vector.replicate 16 0)) 22), (b5, .cells (BV nonce) 173)]) (X := X27) (R := []) hS).tl.tl ?_
          refine dl 13 rfl (by kernel_rfl) ?_
          refine sa 0 ag22 hS rfl rfl rfl (BV_one _) rfl (BV_size _) (BV_size _) ?_
          intro w hS
          refine ⟨fun _ => (St.untail (A := [(b12, .cells (BV (decC key nonce ((bs).take (n - 16)))) 22), (b13, .cells (BV (Vector.replicate 16 0)) 22), (b5, .cells (BV nonce) 173)]) (X := X27) (R := []) hS).tl.tl, ?_⟩
          refine dl 14 rfl (by kernel_rfl) ?_
          refine sa 1 ag22 hS rfl rfl rfl (BV_one _) rfl (BV_size _) (BV_size _) ?_
          intro w hS
          refine ⟨fun h => (by cases h), ?_⟩
          refine de (by kernel_rfl) ?_
          exact mmq ⟨a27, c27, X27, b12, b13, hO27, rfl, St.prm (A := [(b12, .cells (BV (decC key nonce ((bs).take (n - 16)))) 22), (b13, .cells (BV (cryO key nonce (n - 16))) 22), (b5, .cells (BV nonce) 173)]) (B := [(b13, .cells (BV (cryO key nonce (n - 16))) 22), (b12, .cells (BV (decC key nonce ((bs).take (n - 16)))) 22), (b5, .cells (BV nonce) 173)]) (R := (X27 ++ [])) hS [1, 0, 2] (by decide) rfl⟩ ⟨rfl, rfl, rfl, rfl, rfl, rfl, rfl, rfl, rfl, trivial⟩
        · skip
          refine ala zr22 hS rfl rfl ?_
          intro b12 w hb12 hS
          refine ⟨fun _ => hS.tl.tl, ?_⟩
          refine dl 5 rfl (by kernel_rfl) ?_
          refine cs cf121 hS rfl rfl rfl rfl rfl (sp_open_Decrypt (t) (c) (key) (nonce) (a) ((n - 16)) (cap) (((bs).take (n - 16))) _ (hT.st hS) (by first | rfl | omega | (simp; omega) | (simp; done)) (by omega) ((hc.st hS).take8 (n - 16)) (by omega) (hG.st hS)) ?_
          rintro _ X27 w ⟨a27, c27, rfl, hO27⟩ hS
          have hS := St.tailin (X := X27) hS [(b12, .cells (BV (Vector.replicate 16 0)) 22), (b13, .cells (BV (Vector.replicate 16 0)) 22), (b5, .cells (BV nonce) 173)] [] rfl
          refine ⟨fun _ => (St.untail (A := [(b12, .cells (BV (Vector.replicate 16 0)) 22), (b13, .cells (BV (Vector.replicate 16 0)) 22), (b5, .cells (BV nonce) 173)]) (X := X27) (R := []) hS).tl.tl, ?_⟩
          refine dq 6 rfl (by kernel_rfl) (by kernel_rfl) (by kernel_rfl) rfl rfl (fun w hS => mv rfl rfl rfl ⟨rfl, rfl⟩) (St.untail (A := [(b12, .cells (BV (Vector.replicate 16 0)) 22), (b13, .cells (BV (Vector.replicate 16 0)) 22), (b5, .cells (BV nonce) 173)]) (X := X27) (R := []) hS).tl.tl ?_
          refine dq 7 rfl (by kernel_rfl) (by kernel_rfl) (by kernel_rfl) rfl rfl (fun w hS => ext rfl rfl rfl rfl ⟨rfl, rfl⟩) (St.untail (A := [(b12, .cells (BV (Vector.replicate 16 0)) 22), (b13, .cells (BV (Vector.replicate 16 0)) 22), (b5, .cells (BV nonce) 173)]) (X := X27) (R := []) hS).tl.tl ?_
          refine dq 8 rfl (by kernel_rfl) (by kernel_rfl) (by kernel_rfl) rfl rfl (fun w hS => ext rfl rfl rfl rfl ⟨rfl, rfl⟩) (St.untail (A := [(b12, .cells (BV (Vector.replicate 16 0)) 22), (b13, .cells (BV (Vector.replicate 16 0)) 22), (b5, .cells (BV nonce) 173)]) (X := X27) (R := []) hS).tl.tl ?_
          refine dq 9 rfl (by kernel_rfl) (by kernel_rfl) (by kernel_rfl) rfl rfl (fun w hS => ext rfl rfl rfl rfl ⟨rfl, rfl⟩) (St.untail (A := [(b12, .cells (BV (Vector.replicate 16 0)) 22), (b13, .cells (BV (Vector.replicate 16 0)) 22), (b5, .cells (BV nonce) 173)]) (X := X27) (R := []) hS).tl.tl ?_
          refine dq 12 rfl (by kernel_rfl) (by kernel_rfl) (by kernel_rfl) rfl rfl (fun w hS => asg rfl rfl rfl ⟨rfl, rfl⟩) (St.untail (A := [(b12, .cells (BV (Vector.replicate 16 0)) 22), (b13, .cells (BV (Vector.replicate 16 0)) 22), (b5, .cells (BV nonce) 173)]) (X := X27) (R := []) hS).tl.tl ?_
          refine dl 13 rfl (by kernel_rfl) ?_
          refine sa 0 ag22 hS rfl rfl rfl (BV_one _) rfl (BV_size _) (BV_size _) ?_
          intro w hS
          refine ⟨fun _ => (St.untail (A := [(b12, .cells (BV (decC key nonce ((bs).take (n - 16)))) 22), (b13, .cells (BV (Vector.replicate 16 0)) 22), (b5, .cells (BV nonce) 173)]) (X := X27) (R := []) hS).tl.tl, ?_⟩
          refine dl 14 rfl (by kernel_rfl) ?_
          refine sa 1 ag22 hS rfl rfl rfl (BV_one _) rfl (BV_size _) (BV_size _) ?_
          intro w hS
          refine ⟨fun h => (by cases h), ?_⟩
          refine de (by kernel_rfl) ?_
          exact mmq ⟨a27, c27, X27, b12, b13, hO27, rfl, St.prm (A := [(b12, .cells (BV (decC key nonce ((bs).take (n - 16)))) 22), (b13, .cells (BV (cryO key nonce (n - 16))) 22), (b5, .cells (BV nonce) 173)]) (B := [(b13, .cells (BV (cryO key nonce (n - 16))) 22), (b12, .cells (BV (decC key nonce ((bs).take (n - 16)))) 22), (b5, .cells (BV nonce) 173)]) (R := (X27 ++ [])) hS [1, 0, 2] (by decide) rfl⟩ ⟨rfl, rfl, rfl, rfl, rfl, rfl, rfl, rfl, rfl, trivial⟩
    · rintro _ w ⟨a27, c27, X27, b12, b13, hO27, rfl, hS⟩
      refine rg ?_
      refine mv rfl rfl rfl ?_
      refine la 1 ag22 hS rfl rfl rfl rfl (BV_size _) ?_
      refine la 0 ag22 hS rfl rfl rfl rfl (BV_size _) ?_
      refine mv rfl rfl rfl ?_
      refine cv cf117 hS rfl rfl rfl rfl rfl (sp_seal_Tag (t) (c) (key) ((decC key nonce ((bs).take (n - 16)))) ((cryO key nonce (n - 16))) (a2) (n2) (cap2) (bs2) _ (hT.st hS) (by first | rfl | omega | (simp; omega) | (simp; done)) (by omega) (he2.st hS) (by omega) (hG.st hS)) ?_
      intro w hS
      refine ala zr22 hS rfl rfl ?_
      intro b14 w hb14 hS
      refine sa 0 ag22 hS rfl rfl rfl (BV_one _) rfl (BV_size _) (BV_size _) ?_
      intro w hS
      refine wq_then ?_
      refine wc_seq ?_
      refine rd mo 6 (fun w => St w0 [] ([(b14, .cells (BV (tagV key (decC key nonce ((bs).take (n - 16))) (cryO key nonce (n - 16)) bs2)) 22), (b13, .cells (BV (cryO key nonce (n - 16))) 22), (b12, .cells (BV (decC key nonce ((bs).take (n - 16)))) 22), (b5, .cells (BV nonce) 173)] ++ (X27 ++ [])) w) ?_
      have hS := hS.drew
      refine dq 0 rfl (by kernel_rfl) (by kernel_rfl) (by kernel_rfl) rfl rfl (fun w hS => a_all Tryz.underlying22 ⟨_, sz5⟩ rfl rfl rfl ⟨rfl, rfl⟩) hS ?_
      refine dq 1 rfl (by kernel_rfl) (by kernel_rfl) (by kernel_rfl) rfl rfl (fun w hS => mv rfl rfl rfl ⟨rfl, rfl⟩) hS ?_
      refine dq 2 rfl (by kernel_rfl) (by kernel_rfl) (by kernel_rfl) rfl rfl (fun w hS => mv rfl rfl rfl ⟨rfl, rfl⟩) hS ?_
      refine dq 3 rfl (by kernel_rfl) (by kernel_rfl) (by kernel_rfl) rfl rfl (fun w hS => s_l ((n - 16)) Tryz.underlying30 sz5 rfl rfl rfl rfl (by omega) (by omega) ⟨rfl, rfl⟩) hS ?_
      refine dl 4 rfl (by kernel_rfl) ?_
      refine cv cf122 hS rfl rfl rfl rfl rfl (sp_bits_Equal ((some ⟨b14, 0, none⟩)) (16) (16) (((tagV key (decC key nonce ((bs).take (n - 16))) (cryO key nonce (n - 16)) bs2).toList)) ((sla a (n - 16) cap)) ((n - (n - 16))) ((cap - (n - 16))) (((bs).drop (n - 16))) _ Vector.length_toList (by omega) (Cel.bv (hS.get 0 rfl)) (by first | rfl | omega | (simp; omega) | (simp; done)) (by omega) ((hc.st hS).drop8 (lo := (n - 16)) (cap := cap) (by first | omega | (simp; omega) | simp))) ?_
      intro w hS
      refine ⟨fun _ => hS, ?_⟩
      refine dq 5 rfl (by kernel_rfl) (by kernel_rfl) (by kernel_rfl) rfl rfl (fun w hS => notb rfl rfl rfl ⟨rfl, rfl⟩) hS ?_
      refine de (by kernel_rfl) ?_
      refine wq_then ?_
      refine wc_if rfl (fun hc2 => ?_) (fun hc2 => ?_)
      · skip
        try simp only [SB] at hc2
        have he0 := hc2
        refine rg ?_
        refine mki cc33 rfl rfl rfl ?_
        refine asg rfl rfl rfl ?_
        refine asg rfl rfl rfl ?_
        refine wq_then ?_
        refine wc_ret ?_
        refine q_then_ret ?_
        refine fin2 (v := (.slice none 0 0)) (u := (.iface 33 (I (3)))) rfl rfl rfl ?_
        have he : opnE key nonce bs2 bs = 3 := opnE_f hn (by omega) he0
        exact ⟨_, [], rfl, ⟨none, 0, 0, opn_e (by decide) he, opn_o (by decide) he⟩, hS.drop⟩
      · skip
        try simp only [SB] at hc2
        have he0 := hc2
        refine wc_skip ?_
        refine wq_then ?_
        refine rg ?_
        refine mv rfl rfl rfl ?_
        refine asg rfl rfl rfl ?_
        refine asg rfl rfl rfl ?_
        refine wq_then ?_
        refine wc_ret ?_
        refine fin2 (v := .slice a27 (n - 16) c27) (u := .nilIface) rfl rfl rfl ?_
        have he : opnE key nonce bs2 bs = 0 := opnE_t hn (by omega) he0
        exact ⟨_, X27, rfl, ⟨_, _, _, opn_e0 he, opn_o0 hn he hO27⟩, hS.sublist (.cons _ (.cons _ (.cons _ (.cons _ (List.sublist_append_left X27 [])))))⟩
end Go.Proofs.XS

/- walks -/
namespace Go.Proofs.XS
open Go Go.X Go.Proofs
set_option maxRecDepth 100000 in
theorem sp_packet_Decode (t c : Nat) (key : V8 16) (a : Option Addr) (n cap : Nat) (bs : List UInt8) (w0 : World) (hT : TabAt w0 t c key) (hn : bs.length = n) (hN : n ≤ 1000000) (hc : Cel w0 a (c8 bs)) (hcap : n ≤ cap) (hG : Gl 1 w0) : Calls Tryz.prog 50 #[Ptr t 0, .slice a n cap] w0 (RetS w0 (fun v X => DecR key bs 33 v X)) := by
  refine enter (args := [Ptr t 0, .slice a n cap]) Tryz.func50 rfl rfl ?_
  refine startw fun w hS => ?_
  obtain ⟨⟨T, hT1⟩, E, hC⟩ := id hT
  refine rg ?_
  refine ala zr100 hS rfl rfl ?_
  intro b4 w hb4 hS
  refine asg rfl rfl rfl ?_
  refine wq_then ?_
  refine wc_seq ?_
  refine rg ?_
  refine mv rfl rfl rfl ?_
  refine lens Tryz.underlying30 rfl rfl rfl ?_
  refine cv cf89 hS rfl rfl rfl rfl rfl (sp_packet_length (n) _ _ (by omega)) ?_
  intro w hS
  refine asg rfl rfl rfl ?_
  refine wq_then ?_
  refine rg ?_
  refine mv rfl rfl rfl ?_
  refine neE (C := 33) (c := (lng n)) Tryz.underlying27 rfl rfl rfl ?_
  refine wq_then ?_
  refine wc_if rfl (fun hc1 => ?_) (fun hc1 => ?_)
  · skip
    try simp only [SB] at hc1
    have hk : lng n ≠ 0 := by simpa using hc1
    have hq := dcdE_1 (key := key) hn hk
    refine rg ?_
    refine bd (cs := #[I (0), U64 (0), U16 (0), U16 (0), (.slice none 0 0)]) rfl rfl rfl (by kernel_rfl) ?_
    refine mv rfl rfl rfl ?_
    refine sa 0 ag100 hS rfl rfl rfl (by kernel_rfl) rfl rfl rfl ?_
    intro w hS
    refine asg rfl rfl rfl ?_
    refine wq_then ?_
    refine wc_ret ?_
    refine q_then_ret ?_
    refine fin2 (v := .agg (#[I (0), U64 (0), U16 (0), U16 (0), (.slice none 0 0)])) (u := (errV 33 (lng n))) rfl ⟨_, rfl, lv_a ag100 (hS.get 0 rfl) rfl⟩ rfl ?_
    have hj : dcdE key bs ≠ 0 := by rw [hq]; exact hk
    rw [← hq]
    exact ⟨_, [], rfl, dec_bad hj, hS.drop⟩
  · skip
    try simp only [SB] at hc1
    have hk : lng n = 0 := by simpa using hc1
    have hq := dcdE_2 (key := key) hn hk
    have h28 := lng_0 hk
    refine wc_skip ?_
    refine wq_then ?_
    refine rd mo 12 (fun w => St w0 [] [(b4, .cells (#[I (0), U64 (0), U16 (0), U16 (0), (.slice none 0 0)]) 100)] w) ?_
    have hS := hS.drew
    refine dq 0 rfl (by kernel_rfl) (by kernel_rfl) (by kernel_rfl) rfl rfl (fun w hS => mv rfl rfl rfl ⟨rfl, rfl⟩) hS ?_
    refine dq 1 rfl (by kernel_rfl) (by kernel_rfl) (by kernel_rfl) rfl rfl (fun w hS => mv rfl rfl rfl ⟨rfl, rfl⟩) hS ?_
    refine dq 2 rfl (by kernel_rfl) (by kernel_rfl) (by kernel_rfl) rfl rfl (fun w hS => s2b Tryz.underlying166 rfl rfl rfl (by omega) ((hc.st hS).some8 (j := 0) (by first | omega | (simp; omega) | simp)) ⟨rfl, rfl⟩) hS ?_
    refine dq 3 rfl (by kernel_rfl) (by kernel_rfl) (by kernel_rfl) rfl rfl (fun w hS => ld rfl rfl rfl (lv_celj 0 ag166 (hc.st hS) (by first | omega | (simp; done) | (simp; omega)) (by omega)) ⟨rfl, rfl⟩) hS ?_
    refine dq 5 rfl (by kernel_rfl) (by kernel_rfl) (by kernel_rfl) rfl rfl (fun w hS => mv rfl rfl rfl ⟨rfl, rfl⟩) hS ?_
    refine dq 6 rfl (by kernel_rfl) (by kernel_rfl) (by kernel_rfl) rfl rfl (fun w hS => s_l (8) Tryz.underlying30 sz5 rfl rfl rfl rfl (by omega) (by omega) ⟨rfl, rfl⟩) hS ?_
    refine dl 4 rfl (by kernel_rfl) ?_
    refine cv cf86 hS rfl rfl rfl rfl rfl (sp_nonce_Whole ((ofl 8 bs)) _) ?_
    intro w hS
    refine ⟨fun _ => hS, ?_⟩
    refine dl 7 rfl (by kernel_rfl) ?_
    refine cs cf90 hS rfl rfl rfl rfl rfl (sp_open_Open (t) (c) (key) ((nonceV (ofl 8 bs))) ((sla a 8 cap)) ((n - 8)) ((cap - 8)) (((bs).drop 8)) (none) (0) (0) (([])) _ (hT.st hS) (by first | rfl | omega | (simp; omega) | (simp; done)) (by omega) ((hc.st hS).drop8 (lo := 8) (cap := cap) (by first | omega | (simp; omega) | simp)) (by omega) rfl (by omega) (Cel.nil _ _) (by omega) (hG.st hS)) ?_
    rintro _ X28 w ⟨a28, n28, c28, rfl, hO28⟩ hS
    have hS := St.tailin (X := X28) hS [(b4, .cells (#[I (0), U64 (0), U16 (0), U16 (0), (.slice none 0 0)]) 100)] [] rfl
    refine ⟨fun _ => (St.untail (A := [(b4, .cells (#[I (0), U64 (0), U16 (0), U16 (0), (.slice none 0 0)]) 100)]) (X := X28) (R := []) hS), ?_⟩
    refine dq 8 rfl (by kernel_rfl) (by kernel_rfl) (by kernel_rfl) rfl rfl (fun w hS => mv rfl rfl rfl ⟨rfl, rfl⟩) (St.untail (A := [(b4, .cells (#[I (0), U64 (0), U16 (0), U16 (0), (.slice none 0 0)]) 100)]) (X := X28) (R := []) hS) ?_
    refine dq 9 rfl (by kernel_rfl) (by kernel_rfl) (by kernel_rfl) rfl rfl (fun w hS => ext rfl rfl rfl rfl ⟨rfl, rfl⟩) (St.untail (A := [(b4, .cells (#[I (0), U64 (0), U16 (0), U16 (0), (.slice none 0 0)]) 100)]) (X := X28) (R := []) hS) ?_
    refine dq 10 rfl (by kernel_rfl) (by kernel_rfl) (by kernel_rfl) rfl rfl (fun w hS => ext rfl rfl rfl rfl ⟨rfl, rfl⟩) (St.untail (A := [(b4, .cells (#[I (0), U64 (0), U16 (0), U16 (0), (.slice none 0 0)]) 100)]) (X := X28) (R := []) hS) ?_
    refine dq 11 rfl (by kernel_rfl) (by kernel_rfl) (by kernel_rfl) rfl rfl (fun w hS => asg rfl rfl rfl ⟨rfl, rfl⟩) (St.untail (A := [(b4, .cells (#[I (0), U64 (0), U16 (0), U16 (0), (.slice none 0 0)]) 100)]) (X := X28) (R := []) hS) ?_
    refine dl 12 rfl (by kernel_rfl) ?_
    refine asg rfl rfl rfl ?_
    refine ⟨fun h => (by cases h), ?_⟩
    refine de (by kernel_rfl) ?_
    refine wq_then ?_
    refine wc_seq ?_
    refine rg ?_
    refine mv rfl rfl rfl ?_
    refine neE (C := 33) (c := (opnE key (nonceV (ofl 8 bs)) ([]) ((bs).drop 8))) Tryz.underlying27 rfl rfl rfl ?_
    refine wq_then ?_
    refine wc_if rfl (fun hc2 => ?_) (fun hc2 => ?_)
    · skip
      try simp only [SB] at hc2
      have hj : dcdE key bs ≠ 0 := by rw [hq]; simpa using hc2
      refine rg ?_
      refine bd (cs := #[I (0), U64 (0), U16 (0), U16 (0), (.slice none 0 0)]) rfl rfl rfl (by kernel_rfl) ?_
      refine mv rfl rfl rfl ?_
      refine sa 0 ag100 hS rfl rfl rfl (by kernel_rfl) rfl rfl rfl ?_
      intro w hS
      refine asg rfl rfl rfl ?_
      refine wq_then ?_
      refine wc_ret ?_
      refine q_then_ret ?_
      refine fin2 (v := .agg (#[I (0), U64 (0), U16 (0), U16 (0), (.slice none 0 0)])) (u := (errV 33 (opnE key (nonceV (ofl 8 bs)) ([]) ((bs).drop 8)))) rfl ⟨_, rfl, lv_a ag100 (hS.get 0 rfl) rfl⟩ rfl ?_
      rw [← hq]
      exact ⟨_, [], rfl, dec_bad hj, hS.drop⟩
    · skip
      try simp only [SB] at hc2
      have hj : dcdE key bs = 0 := by rw [hq]; simpa using hc2
      rw [← hq, if_pos hj] at hO28
      have hO28 : Own 1 a28 n28 c28 (c8 (dcdX key bs)) X28 := hO28
      have hl28 := hO28.len8
      have hl29 := dcdX_len key bs
      have hl30 := hO28.le
      refine wc_skip ?_
      refine wq_then ?_
      refine rg ?_
      refine mv rfl rfl rfl ?_
      refine cv cf91 hS rfl rfl rfl rfl rfl (sp_nonce_ParseHead (a) (n) (cap) (bs) _ (by first | rfl | omega | (simp; omega) | (simp; done)) (by omega) (hc.st hS) (by omega) (by omega)) ?_
      intro w hS
      refine mv rfl rfl rfl ?_
      refine ext rfl rfl rfl rfl ?_
      refine ext rfl rfl rfl rfl ?_
      refine ext rfl rfl rfl rfl ?_
      refine asg rfl rfl rfl ?_
      refine asg rfl rfl rfl ?_
      refine asg rfl rfl rfl ?_
      refine wq_then ?_
      refine rg ?_
      refine mv rfl rfl rfl ?_
      refine s_h (4) Tryz.underlying30 ⟨_, sz5⟩ rfl rfl rfl rfl (by omega) (by omega) ?_
      refine cv cf92 hS rfl rfl rfl rfl rfl (sp_bits_Number (a28) (4) (c28) (((dcdX key bs).take 4)) _ (by first | rfl | omega | (simp; omega) | (simp; done)) (by omega) ((hO28.cel hS (fun p hp => by simp [hp])).take8 4) (by omega)) ?_
      intro w hS
      refine asg rfl rfl rfl ?_
      refine wq_then ?_
      refine rg ?_
      refine mv rfl rfl rfl ?_
      refine mv rfl rfl rfl ?_
      refine mv rfl rfl rfl ?_
      refine shrn64 (16) (by omega) rfl rfl rfl rfl ?_
      refine cvu16 Tryz.underlying36 ⟨_, Tryz.underlying24⟩ rfl rfl rfl ?_
      refine mv rfl rfl rfl ?_
      refine cvu16 Tryz.underlying36 ⟨_, Tryz.underlying24⟩ rfl rfl rfl ?_
      refine mv rfl rfl rfl ?_
      refine s_l (4) Tryz.underlying30 sz5 rfl rfl rfl rfl (by omega) (by omega) ?_
      refine bd (cs := #[I ((headD bs : Nat) : Int), U64 (headS bs), U16 (toU16 (((shr64 (number ((dcdX key bs).take 4)) 16).toNat : Int))), U16 (toU16 (((number ((dcdX key bs).take 4)).toNat : Int))), .slice (sla a28 4 c28) (n28 - 4) (c28 - 4)]) rfl rfl rfl (by kernel_rfl) ?_
      refine sa 0 ag100 hS rfl rfl rfl (by kernel_rfl) rfl rfl rfl ?_
      intro w hS
      refine asg rfl rfl rfl ?_
      refine wq_then ?_
      refine wc_ret ?_
      refine fin2 (v := .agg (#[I ((headD bs : Nat) : Int), U64 (headS bs), U16 (toU16 (((shr64 (number ((dcdX key bs).take 4)) 16).toNat : Int))), U16 (toU16 (((number ((dcdX key bs).take 4)).toNat : Int))), .slice (sla a28 4 c28) (n28 - 4) (c28 - 4)])) (u := .nilIface) rfl ⟨_, rfl, lv_a ag100 (hS.get 0 rfl) rfl⟩ rfl ?_
      exact ⟨_, X28, rfl, dec_ok hj (by omega) hl28 (by omega) hO28, hS.sublist (.cons _ (List.sublist_append_left X28 []))⟩
end Go.Proofs.XS

/- walks -/
namespace Go.Proofs.XS
open Go Go.X Go.Proofs
set_option maxRecDepth 100000 in
theorem sp_stamp_Diff (a b : UInt16) (w0 : World) : Calls Tryz.prog 94 #[U16 a, U16 b] w0 (Ret w0 (U16 (a - b))) := by
  refine enter (args := [U16 a, U16 b]) Tryz.func94 rfl rfl ?_
  refine startw fun w hS => ?_
  refine rg ?_
  refine asg rfl rfl rfl ?_
  refine wq_then ?_
  refine rg ?_
  refine mv rfl rfl rfl ?_
  refine mv rfl rfl rfl ?_
  refine sub16 rfl rfl rfl rfl ?_
  refine asg rfl rfl rfl ?_
  refine wq_then ?_
  refine wc_ret ?_
  refine fin1 (v := U16 (a - b)) rfl rfl ?_
  exact ⟨rfl, hS.drop⟩
end Go.Proofs.XS

/- walks -/
namespace Go.Proofs.XS
open Go Go.X Go.Proofs
set_option maxRecDepth 100000 in
theorem sp_stamp_Sample_1 (e : UInt16) (w0 : World) : Calls Tryz.prog 93 #[U16 e] w0 (Ret w0 (.bool (decide (e ≠ 65535)))) := by
  refine enter (args := [U16 e]) Tryz.func93 rfl rfl ?_
  refine startw fun w hS => ?_
  refine rg ?_
  refine asg rfl rfl rfl ?_
  refine wq_then ?_
  refine rg ?_
  refine mv rfl rfl rfl ?_
  refine nei rfl rfl rfl rfl ?_
  refine asg rfl rfl rfl ?_
  refine wq_then ?_
  refine wc_ret ?_
  refine fin1 (v := .bool ((((e).toNat : Int) : Int) != (65535 : Int))) rfl rfl ?_
  refine ⟨?_, hS.drop⟩
  rw [ne_u16]
end Go.Proofs.XS

/- walks -/
namespace Go.Proofs.XS
open Go Go.X Go.Proofs
set_option maxRecDepth 100000 in
theorem sp_stamp_Sample (now e : UInt16) (w0 : World) : Calls Tryz.prog 56 #[U16 now, U16 e] w0 (Ret w0 (.tuple #[U16 (smpV now e), .bool (decide (e ≠ 65535))])) := by
  refine enter (args := [U16 now, U16 e]) Tryz.func56 rfl rfl ?_
  refine startw fun w hS => ?_
  refine rg ?_
  refine asg rfl rfl rfl ?_
  refine asg rfl rfl rfl ?_
  refine wq_then ?_
  refine rg ?_
  refine asg rfl rfl rfl ?_
  refine wq_then ?_
  refine wc_seq ?_
  refine rg ?_
  refine mv rfl rfl rfl ?_
  refine mv rfl rfl rfl ?_
  refine cv cf93 hS rfl rfl rfl rfl rfl (sp_stamp_Sample_1 (e) _) ?_
  intro w hS
  refine notb rfl rfl rfl ?_
  refine wq_then ?_
  refine wc_if rfl (fun hc1 => ?_) (fun hc1 => ?_)
  · skip
    try simp only [SB] at hc1
    have he : e = 65535 := by simpa using hc1
    refine rg ?_
    refine asg rfl rfl rfl ?_
    refine asg rfl rfl rfl ?_
    refine wq_then ?_
    refine wc_ret ?_
    refine q_then_ret ?_
    refine fin2 (v := U16 (0)) (u := .bool (false)) rfl rfl rfl ?_
    refine ⟨?_, hS.drop⟩
    simp only [smpV, he, if_true, if_false, ne_eq, not_true_eq_false, not_false_eq_true, decide_true, decide_false]
  · skip
    try simp only [SB] at hc1
    have he : ¬ e = 65535 := by simpa using hc1
    refine wc_skip ?_
    refine wq_then ?_
    refine rg ?_
    refine mv rfl rfl rfl ?_
    refine mv rfl rfl rfl ?_
    refine cv cf94 hS rfl rfl rfl rfl rfl (sp_stamp_Diff (now) (e) _) ?_
    intro w hS
    refine asg rfl rfl rfl ?_
    refine asg rfl rfl rfl ?_
    refine wq_then ?_
    refine wc_ret ?_
    refine fin2 (v := U16 (now - e)) (u := .bool (true)) rfl rfl rfl ?_
    refine ⟨?_, hS.drop⟩
    simp only [smpV, he, if_true, if_false, ne_eq, not_true_eq_false, not_false_eq_true, decide_true, decide_false]
end Go.Proofs.XS

/- walks -/
namespace Go.Proofs.XS
open Go Go.X Go.Proofs
set_option maxRecDepth 100000 in
theorem sp_echo_Rtt_Add (s E : Nat) (v0 v1 v2 v3 v4 v5 v9 v10 : Value) (rl : UInt16) (rc : Nat) (re : UInt32) (x : UInt16) (w0 : World) (hs : w0.heap[s]? = some (.cells (#[v0, v1, v2, v3, v4, v5, U16 (rl), I ((rc : Int)), U32 (re), v9, v10]) E)) (hrc : rc < 1000000000) : Calls Tryz.prog 57 #[Ptr s 6, U16 x] w0 (RetM w0 [s] (fun v L' => L' = [(s, .cells #[v0, v1, v2, v3, v4, v5, U16 x, I ((rc + 1 : Nat) : Int), U32 (estN rc re x), v9, v10] E)])) := by
  refine enter (args := [Ptr s 6, U16 x]) Tryz.func57 rfl rfl ?_
  refine startx (F := [s]) (L := [(s, .cells (#[v0, v1, v2, v3, v4, v5, U16 (rl), I ((rc : Int)), U32 (re), v9, v10]) E)]) (St.starts (X := [(s, .cells (#[v0, v1, v2, v3, v4, v5, U16 (rl), I ((rc : Int)), U32 (re), v9, v10]) E)]) (fun p hp => by simp only [List.mem_cons, List.not_mem_nil, or_false] at hp; subst hp; exact hs) (by simp)) fun w hS => ?_
  refine wc_seq ?_
  refine rg ?_
  refine mv rfl rfl rfl ?_
  refine eqpn Tryz.underlying175 rfl rfl rfl rfl ?_
  refine wq_then ?_
  refine wc_if_f rfl ?_
  refine wc_skip ?_
  refine wq_then ?_
  refine rg ?_
  refine mv rfl rfl rfl ?_
  refine cvu32 Tryz.underlying72 ⟨_, Tryz.underlying36⟩ rfl rfl rfl ?_
  refine asg rfl rfl rfl ?_
  refine wq_then ?_
  refine wc_seq ?_
  refine rg ?_
  refine mv rfl rfl rfl ?_
  refine nilp rfl rfl rfl ?_
  refine fan (1) (7) Tryz.underlying88 rfl sz3 (by decide) rfl rfl rfl rfl (by omega) ?_
  refine lo 0 sc3 hS rfl rfl rfl rfl rfl ?_
  refine eqi rfl rfl rfl rfl ?_
  refine wq_then ?_
  refine wc_if rfl (fun hc1 => ?_) (fun hc1 => ?_)
  · skip
    try simp only [SB] at hc1
    refine wc_region ?_
    refine mv rfl rfl rfl ?_
    refine mv rfl rfl rfl ?_
    refine shln32 (3) (by omega) rfl rfl rfl rfl ?_
    refine nilp rfl rfl rfl ?_
    refine fan (2) (8) Tryz.underlying88 rfl sz72 (by decide) rfl rfl rfl rfl (by omega) ?_
    refine st 0 sz72 hS rfl rfl rfl rfl rfl rfl (by show (8 : Nat) < 11; decide) rfl ?_
    intro w hS
    refine wq_then ?_
    refine rg ?_
    refine mv rfl rfl rfl ?_
    refine mv rfl rfl rfl ?_
    refine nilp rfl rfl rfl ?_
    refine fan (0) (6) Tryz.underlying88 rfl sz36 (by decide) rfl rfl rfl rfl (by omega) ?_
    refine st 0 sz36 hS rfl rfl rfl rfl rfl rfl (by show (6 : Nat) < 11; decide) rfl ?_
    intro w hS
    refine wq_then ?_
    refine wc_region ?_
    refine mv rfl rfl rfl ?_
    refine nilp rfl rfl rfl ?_
    refine fan (1) (7) Tryz.underlying88 rfl sz3 (by decide) rfl rfl rfl rfl (by omega) ?_
    refine lo 0 sc3 hS rfl rfl rfl rfl rfl ?_
    refine addi (by omega) (by omega) rfl rfl rfl rfl ?_
    refine nilp rfl rfl rfl ?_
    refine fan (1) (7) Tryz.underlying88 rfl sz3 (by decide) rfl rfl rfl rfl (by omega) ?_
    refine st 0 sz3 hS rfl rfl rfl rfl rfl rfl (by show (7 : Nat) < 11; decide) rfl ?_
    intro w hS
    refine q_norm_ret ?_
    refine fin0 rfl ?_
    refine ⟨_, _, rfl, rfl, ?_⟩
    first | (rw [estN, if_pos (by omega)]; exact hS) | (rw [estN, if_neg (by omega)]; exact hS)
  · skip
    try simp only [SB] at hc1
    refine wc_draw mo 13 (fun w => St w0 [s] [(s, .cells (#[v0, v1, v2, v3, v4, v5, U16 (rl), I ((rc : Int)), U32 (re), v9, v10]) E)] w) ?_
    have hS := hS.drew
    refine dq 0 rfl (by kernel_rfl) (by kernel_rfl) (by kernel_rfl) rfl rfl (fun w hS => mv rfl rfl rfl ⟨rfl, rfl⟩) hS ?_
    refine dq 1 rfl (by kernel_rfl) (by kernel_rfl) (by kernel_rfl) rfl rfl (fun w hS => nilp rfl rfl rfl ⟨rfl, rfl⟩) hS ?_
    refine dq 2 rfl (by kernel_rfl) (by kernel_rfl) (by kernel_rfl) rfl rfl (fun w hS => fan (2) (8) Tryz.underlying88 rfl sz72 (by decide) rfl rfl rfl rfl (by omega) ⟨rfl, rfl⟩) hS ?_
    refine dq 3 rfl (by kernel_rfl) (by kernel_rfl) (by kernel_rfl) rfl rfl (fun w hS => lo 0 sc72 hS rfl rfl rfl rfl rfl ⟨rfl, rfl⟩) hS ?_
    refine dq 4 rfl (by kernel_rfl) (by kernel_rfl) (by kernel_rfl) rfl rfl (fun w hS => mv rfl rfl rfl ⟨rfl, rfl⟩) hS ?_
    refine dq 5 rfl (by kernel_rfl) (by kernel_rfl) (by kernel_rfl) rfl rfl (fun w hS => mv rfl rfl rfl ⟨rfl, rfl⟩) hS ?_
    refine dq 6 rfl (by kernel_rfl) (by kernel_rfl) (by kernel_rfl) rfl rfl (fun w hS => nilp rfl rfl rfl ⟨rfl, rfl⟩) hS ?_
    refine dq 7 rfl (by kernel_rfl) (by kernel_rfl) (by kernel_rfl) rfl rfl (fun w hS => fan (2) (8) Tryz.underlying88 rfl sz72 (by decide) rfl rfl rfl rfl (by omega) ⟨rfl, rfl⟩) hS ?_
    refine dq 8 rfl (by kernel_rfl) (by kernel_rfl) (by kernel_rfl) rfl rfl (fun w hS => lo 0 sc72 hS rfl rfl rfl rfl rfl ⟨rfl, rfl⟩) hS ?_
    refine dq 9 rfl (by kernel_rfl) (by kernel_rfl) (by kernel_rfl) rfl rfl (fun w hS => add32 (q := (4 : UInt32)) rfl rfl rfl rfl ⟨rfl, rfl⟩) hS ?_
    refine dq 10 rfl (by kernel_rfl) (by kernel_rfl) (by kernel_rfl) rfl rfl (fun w hS => shrn32 (3) (by omega) rfl rfl rfl rfl ⟨rfl, rfl⟩) hS ?_
    refine dq 11 rfl (by kernel_rfl) (by kernel_rfl) (by kernel_rfl) rfl rfl (fun w hS => sub32 rfl rfl rfl rfl ⟨rfl, rfl⟩) hS ?_
    refine dq 12 rfl (by kernel_rfl) (by kernel_rfl) (by kernel_rfl) rfl rfl (fun w hS => add32 rfl rfl rfl rfl ⟨rfl, rfl⟩) hS ?_
    refine dl 13 rfl (by kernel_rfl) ?_
    refine nilp rfl rfl rfl ?_
    refine ⟨fun h => (by cases h), ?_⟩
    refine dl 14 rfl (by kernel_rfl) ?_
    refine fan (2) (8) Tryz.underlying88 rfl sz72 (by decide) rfl rfl rfl rfl (by omega) ?_
    refine ⟨fun h => (by cases h), ?_⟩
    refine dl 15 rfl (by kernel_rfl) ?_
    refine st 0 sz72 hS rfl rfl rfl rfl rfl rfl (by show (8 : Nat) < 11; decide) rfl ?_
    intro w hS
    refine ⟨fun h => (by cases h), ?_⟩
    refine de (by kernel_rfl) ?_
    refine wq_then ?_
    refine rg ?_
    refine mv rfl rfl rfl ?_
    refine mv rfl rfl rfl ?_
    refine nilp rfl rfl rfl ?_
    refine fan (0) (6) Tryz.underlying88 rfl sz36 (by decide) rfl rfl rfl rfl (by omega) ?_
    refine st 0 sz36 hS rfl rfl rfl rfl rfl rfl (by show (6 : Nat) < 11; decide) rfl ?_
    intro w hS
    refine wq_then ?_
    refine wc_region ?_
    refine mv rfl rfl rfl ?_
    refine nilp rfl rfl rfl ?_
    refine fan (1) (7) Tryz.underlying88 rfl sz3 (by decide) rfl rfl rfl rfl (by omega) ?_
    refine lo 0 sc3 hS rfl rfl rfl rfl rfl ?_
    refine addi (by omega) (by omega) rfl rfl rfl rfl ?_
    refine nilp rfl rfl rfl ?_
    refine fan (1) (7) Tryz.underlying88 rfl sz3 (by decide) rfl rfl rfl rfl (by omega) ?_
    refine st 0 sz3 hS rfl rfl rfl rfl rfl rfl (by show (7 : Nat) < 11; decide) rfl ?_
    intro w hS
    refine q_norm_ret ?_
    refine fin0 rfl ?_
    refine ⟨_, _, rfl, rfl, ?_⟩
    first | (rw [estN, if_pos (by omega)]; exact hS) | (rw [estN, if_neg (by omega)]; exact hS)
end Go.Proofs.XS

/- walks -/
namespace Go.Proofs.XS
open Go Go.X Go.Proofs
set_option maxRecDepth 100000 in
theorem sp_filter_Filter_Fresh (pf E ac rf : Nat) (ls : UInt64) (sq : UInt64) (w0 : World) (hpf : w0.heap[pf]? = some (.cells (#[I (ac : Int), I (rf : Int), U64 ls]) E)) : Calls Tryz.prog 52 #[Ptr pf 0, U64 sq] w0 (Ret w0 (.bool (frsh ls sq))) := by
  refine enter (args := [Ptr pf 0, U64 sq]) Tryz.func52 rfl rfl ?_
  refine startw fun w hS => ?_
  refine rg ?_
  refine asg rfl rfl rfl ?_
  refine wq_then ?_
  refine rg ?_
  refine mv rfl rfl rfl ?_
  refine nepn Tryz.underlying83 rfl rfl rfl rfl ?_
  refine mv rfl rfl rfl ?_
  refine mv rfl rfl rfl ?_
  refine mv rfl rfl rfl ?_
  refine nilp rfl rfl rfl ?_
  refine fan (2) (2) Tryz.underlying155 rfl sz24 (by decide) rfl rfl rfl rfl (by omega) ?_
  refine lod hpf List.not_mem_nil sc24 hS rfl rfl rfl rfl ?_
  refine geq rfl rfl rfl rfl ?_
  refine pk_t rfl rfl rfl rfl ?_
  refine mv rfl rfl rfl ?_
  refine spl 15 rfl (fun hb1 => ?_) (fun hb1 => ?_)
  · skip
    try simp only [SB] at hb1
    refine mv rfl rfl rfl ?_
    refine leq rfl rfl rfl rfl ?_
    refine pk_t rfl rfl rfl rfl ?_
    refine asg rfl rfl rfl ?_
    refine wq_then ?_
    refine wc_ret ?_
    refine fin1 (v := .bool (decide (((sq).toNat : Int) ≤ (9223372036854775807 : Int)))) rfl rfl ?_
    refine ⟨?_, hS.drop⟩
    congr 2
    simp only [frsh]
    first | (rw [decide_eq_false (by omega)]) | (congr 1; apply propext; omega)
  · skip
    try simp only [SB] at hb1
    refine no rfl rfl ?_
    refine no rfl rfl ?_
    refine pk_f rfl rfl rfl rfl ?_
    refine asg rfl rfl rfl ?_
    refine wq_then ?_
    refine wc_ret ?_
    refine fin1 (v := .bool (false)) rfl rfl ?_
    refine ⟨?_, hS.drop⟩
    congr 2
    simp only [frsh]
    first | (rw [decide_eq_false (by omega)]) | (congr 1; apply propext; omega)
end Go.Proofs.XS

/- walks -/
namespace Go.Proofs.XS
open Go Go.X Go.Proofs
set_option maxRecDepth 100000 in
theorem sp_filter_Filter_Refuse (pf E : Nat) (ac rf : Nat) (ls : UInt64) (w0 : World) (hpf : w0.heap[pf]? = some (.cells (#[I ((ac : Int)), I ((rf : Int)), U64 (ls)]) E)) (hrf : rf < 1000000000) : Calls Tryz.prog 53 #[Ptr pf 0] w0 (RetM w0 [pf] (fun v L' => L' = [(pf, .cells #[I (ac : Int), I ((rf + 1 : Nat) : Int), U64 ls] E)])) := by
  refine enter (args := [Ptr pf 0]) Tryz.func53 rfl rfl ?_
  refine startx (F := [pf]) (L := [(pf, .cells (#[I ((ac : Int)), I ((rf : Int)), U64 (ls)]) E)]) (St.starts (X := [(pf, .cells (#[I ((ac : Int)), I ((rf : Int)), U64 (ls)]) E)]) (fun p hp => by simp only [List.mem_cons, List.not_mem_nil, or_false] at hp; subst hp; exact hpf) (by simp)) fun w hS => ?_
  refine rg ?_
  refine mv rfl rfl rfl ?_
  refine nepn Tryz.underlying83 rfl rfl rfl rfl ?_
  refine wq_then ?_
  refine wc_if_t rfl ?_
  refine wc_region ?_
  refine mv rfl rfl rfl ?_
  refine nilp rfl rfl rfl ?_
  refine fan (0) (0) Tryz.underlying155 rfl sz153 (by decide) rfl rfl rfl rfl (by omega) ?_
  refine fan (1) (1) Tryz.underlying153 rfl sz3 (by decide) rfl rfl rfl rfl (by omega) ?_
  refine lo 0 sc3 hS rfl rfl rfl rfl rfl ?_
  refine addi (by omega) (by omega) rfl rfl rfl rfl ?_
  refine nilp rfl rfl rfl ?_
  refine fan (0) (0) Tryz.underlying155 rfl sz153 (by decide) rfl rfl rfl rfl (by omega) ?_
  refine fan (1) (1) Tryz.underlying153 rfl sz3 (by decide) rfl rfl rfl rfl (by omega) ?_
  refine st 0 sz3 hS rfl rfl rfl rfl rfl rfl (by show (1 : Nat) < 3; decide) rfl ?_
  intro w hS
  refine q_norm_ret ?_
  refine fin0 rfl ?_
  exact ⟨_, _, rfl, rfl, hS⟩
end Go.Proofs.XS

/- walks -/
namespace Go.Proofs.XS
open Go Go.X Go.Proofs
set_option maxRecDepth 100000 in
theorem sp_filter_Filter_Accept (pf E : Nat) (ac rf : Nat) (ls sq : UInt64) (w0 : World) (hpf : w0.heap[pf]? = some (.cells (#[I ((ac : Int)), I ((rf : Int)), U64 (ls)]) E)) (hac : ac < 1000000000) (hf : frsh ls sq = true) : Calls Tryz.prog 54 #[Ptr pf 0, U64 sq] w0 (RetM w0 [pf] (fun v L' => v = errV 33 0 ∧ L' = [(pf, .cells #[I ((ac + 1 : Nat) : Int), I (rf : Int), U64 (sq + 1)] E)])) := by
  refine enter (args := [Ptr pf 0, U64 sq]) Tryz.func54 rfl rfl ?_
  refine startx (F := [pf]) (L := [(pf, .cells (#[I ((ac : Int)), I ((rf : Int)), U64 (ls)]) E)]) (St.starts (X := [(pf, .cells (#[I ((ac : Int)), I ((rf : Int)), U64 (ls)]) E)]) (fun p hp => by simp only [List.mem_cons, List.not_mem_nil, or_false] at hp; subst hp; exact hpf) (by simp)) fun w hS => ?_
  refine rg ?_
  refine asg rfl rfl rfl ?_
  refine wq_then ?_
  refine wc_seq ?_
  refine wc_block ?_
  refine rg ?_
  refine mv rfl rfl rfl ?_
  refine eqpn Tryz.underlying83 rfl rfl rfl rfl ?_
  refine asg rfl rfl rfl ?_
  refine wq_then ?_
  refine wc_if_f rfl ?_
  refine rg ?_
  refine mv rfl rfl rfl ?_
  refine mv rfl rfl rfl ?_
  refine cv cf52 hS rfl rfl rfl rfl rfl (sp_filter_Filter_Fresh (pf) (_) (ac) (rf) (ls) (sq) _ (hS.get 0 rfl)) ?_
  intro w hS
  refine asg rfl rfl rfl ?_
  refine wq_then ?_
  refine wc_if rfl (fun hc1 => ?_) (fun hc1 => ?_)
  · skip
    try simp only [SB] at hc1
    refine rg ?_
    refine mv rfl rfl rfl ?_
    refine mv rfl rfl rfl ?_
    refine add64 (q := (1 : UInt64)) rfl rfl rfl rfl ?_
    refine nilp rfl rfl rfl ?_
    refine fan (2) (2) Tryz.underlying155 rfl sz24 (by decide) rfl rfl rfl rfl (by omega) ?_
    refine st 0 sz24 hS rfl rfl rfl rfl rfl rfl (by show (2 : Nat) < 3; decide) rfl ?_
    intro w hS
    refine wq_then ?_
    refine rg ?_
    refine mv rfl rfl rfl ?_
    refine nilp rfl rfl rfl ?_
    refine fan (0) (0) Tryz.underlying155 rfl sz153 (by decide) rfl rfl rfl rfl (by omega) ?_
    refine fan (0) (0) Tryz.underlying153 rfl sz3 (by decide) rfl rfl rfl rfl (by omega) ?_
    refine lo 0 sc3 hS rfl rfl rfl rfl rfl ?_
    refine addi (by omega) (by omega) rfl rfl rfl rfl ?_
    refine nilp rfl rfl rfl ?_
    refine fan (0) (0) Tryz.underlying155 rfl sz153 (by decide) rfl rfl rfl rfl (by omega) ?_
    refine fan (0) (0) Tryz.underlying153 rfl sz3 (by decide) rfl rfl rfl rfl (by omega) ?_
    refine st 0 sz3 hS rfl rfl rfl rfl rfl rfl (by show (0 : Nat) < 3; decide) rfl ?_
    intro w hS
    refine wq_then ?_
    refine rg ?_
    refine asg rfl rfl rfl ?_
    refine wq_then ?_
    refine wc_ret ?_
    refine q_block_ret ?_
    refine q_then_ret ?_
    refine fin1 (v := .nilIface) rfl rfl ?_
    exact ⟨_, _, rfl, ⟨rfl, rfl⟩, hS⟩
  · skip
    try simp only [SB] at hc1
    rw [hf] at hc1; cases hc1
end Go.Proofs.XS

/- walks -/
namespace Go.Proofs.XS
open Go Go.X Go.Proofs
set_option maxRecDepth 100000 in
theorem sp_peer_Peer_Move (pp E : Nat) (pm : Nat) (ad : List UInt8) (fx : Bool) (mvs : Nat) (m : List (List UInt8 × Int)) (s : List UInt8) (w0 : World) (hpp : w0.heap[pp]? = some (.cells (#[Str ad, .bool (fx), I (((mvs : Nat) : Int)), .map (some pm)]) E)) (hpm : w0.heap[pm]? = some (mOb encS vI m)) (hnd : ([pp, pm] : List Nat).Nodup) (hmv : mvs < 1000000000) : Calls Tryz.prog 58 #[Ptr pp 0, Str s] w0 (RetM w0 [pp, pm] (fun v L' => ∃ b m', v = .bool b ∧ L' = [(pp, .cells #[Str (mvA fx ad s), .bool fx, I ((mvN fx ad s mvs : Nat) : Int), .map (some pm)] E), (pm, mOb encS vI m')])) := by
  refine enter (args := [Ptr pp 0, Str s]) Tryz.func58 rfl rfl ?_
  refine startx (F := [pp, pm]) (L := [(pp, .cells (#[Str ad, .bool (fx), I (((mvs : Nat) : Int)), .map (some pm)]) E), (pm, mOb encS vI m)]) (St.starts (X := [(pp, .cells (#[Str ad, .bool (fx), I (((mvs : Nat) : Int)), .map (some pm)]) E), (pm, mOb encS vI m)]) (fun p hp => by simp only [List.mem_cons, List.not_mem_nil, or_false] at hp; rcases hp with rfl | rfl; exact hpp; exact hpm) hnd) fun w hS => ?_
  refine rg ?_
  refine asg rfl rfl rfl ?_
  refine wq_then ?_
  refine wc_seq ?_
  refine rg ?_
  refine mv rfl rfl rfl ?_
  refine eqpn Tryz.underlying76 rfl rfl rfl rfl ?_
  refine mv rfl rfl rfl ?_
  refine mv rfl rfl rfl ?_
  refine nilp rfl rfl rfl ?_
  refine fan (1) (1) Tryz.underlying135 rfl sz4 (by decide) rfl rfl rfl rfl (by omega) ?_
  refine lo 0 sc4 hS rfl rfl rfl rfl rfl ?_
  refine pk_f rfl rfl rfl rfl ?_
  refine mv rfl rfl rfl ?_
  refine spl 13 rfl (fun hb1 => ?_) (fun hb1 => ?_)
  · skip
    try simp only [SB] at hb1
    refine no rfl rfl ?_
    refine no rfl rfl ?_
    refine no rfl rfl ?_
    refine pk_t rfl rfl rfl rfl ?_
    refine wq_then ?_
    refine wc_if_t rfl ?_
    refine rg ?_
    refine asg rfl rfl rfl ?_
    refine wq_then ?_
    refine wc_ret ?_
    refine q_then_ret ?_
    refine fin1 (v := .bool (false)) rfl rfl ?_
    first | exact ⟨_, _, rfl, ⟨_, _, rfl, rfl⟩, hS⟩ | (obtain ⟨e1, e2⟩ := mv_no (mv := mvs) (ad := ad) (s := s) (fx := fx) (by simp_all); exact ⟨_, _, rfl, ⟨_, _, rfl, rfl⟩, by rw [e1, e2]; exact hS⟩) | (obtain ⟨e1, e2⟩ := mv_yes (mv := mvs) (ad := ad) (s := s) (fx := fx) (by simp_all) (by simp_all) (by simp_all); exact ⟨_, _, rfl, ⟨_, _, rfl, rfl⟩, by rw [e1, e2]; exact hS⟩)
  · skip
    try simp only [SB] at hb1
    refine mv rfl rfl rfl ?_
    refine cv cf70 hS rfl rfl rfl rfl rfl (sp_peer_Right (s) _) ?_
    intro w hS
    refine notb rfl rfl rfl ?_
    refine pk_f rfl rfl rfl rfl ?_
    refine wq_then ?_
    refine wc_if rfl (fun hc1 => ?_) (fun hc1 => ?_)
    · skip
      try simp only [SB] at hc1
      refine rg ?_
      refine asg rfl rfl rfl ?_
      refine wq_then ?_
      refine wc_ret ?_
      refine q_then_ret ?_
      refine fin1 (v := .bool (false)) rfl rfl ?_
      first | exact ⟨_, _, rfl, ⟨_, _, rfl, rfl⟩, hS⟩ | (obtain ⟨e1, e2⟩ := mv_no (mv := mvs) (ad := ad) (s := s) (fx := fx) (by simp_all); exact ⟨_, _, rfl, ⟨_, _, rfl, rfl⟩, by rw [e1, e2]; exact hS⟩) | (obtain ⟨e1, e2⟩ := mv_yes (mv := mvs) (ad := ad) (s := s) (fx := fx) (by simp_all) (by simp_all) (by simp_all); exact ⟨_, _, rfl, ⟨_, _, rfl, rfl⟩, by rw [e1, e2]; exact hS⟩)
    · skip
      try simp only [SB] at hc1
      refine wc_skip ?_
      refine wq_then ?_
      refine rd mo 10 (fun w => St w0 [pp, pm] [(pp, .cells (#[Str ad, .bool (fx), I (((mvs : Nat) : Int)), .map (some pm)]) E)] w) ?_
      have hS := hS.drew
      refine dq 0 rfl (by kernel_rfl) (by kernel_rfl) (by kernel_rfl) rfl rfl (fun w hS => mv rfl rfl rfl ⟨rfl, rfl⟩) (hS.sublist (.cons_cons _ (.cons _ (List.nil_sublist _)))) ?_
      refine dq 1 rfl (by kernel_rfl) (by kernel_rfl) (by kernel_rfl) rfl rfl (fun w hS => nilp rfl rfl rfl ⟨rfl, rfl⟩) (hS.sublist (.cons_cons _ (.cons _ (List.nil_sublist _)))) ?_
      refine dq 2 rfl (by kernel_rfl) (by kernel_rfl) (by kernel_rfl) rfl rfl (fun w hS => fan (3) (3) Tryz.underlying135 rfl sz133 (by decide) rfl rfl rfl rfl (by omega) ⟨rfl, rfl⟩) (hS.sublist (.cons_cons _ (.cons _ (List.nil_sublist _)))) ?_
      refine dq 3 rfl (by kernel_rfl) (by kernel_rfl) (by kernel_rfl) rfl rfl (fun w hS => lo 0 sc133 hS rfl rfl rfl rfl rfl ⟨rfl, rfl⟩) (hS.sublist (.cons_cons _ (.cons _ (List.nil_sublist _)))) ?_
      refine dq 4 rfl (by kernel_rfl) (by kernel_rfl) (by kernel_rfl) rfl rfl (fun w hS => mv rfl rfl rfl ⟨rfl, rfl⟩) (hS.sublist (.cons_cons _ (.cons _ (List.nil_sublist _)))) ?_
      refine dq 5 rfl (by kernel_rfl) (by kernel_rfl) (by kernel_rfl) rfl rfl (fun w hS => bd (cs := #[Str s]) rfl rfl rfl (by kernel_rfl) ⟨rfl, rfl⟩) (hS.sublist (.cons_cons _ (.cons _ (List.nil_sublist _)))) ?_
      refine dl2 6 8 rfl rfl (by kernel_rfl) ?_ ?_
      · skip
        refine lku (m := m) (a := s) Tryz.underlying133 mk133 zr3 rfl rfl rfl rfl (hS.get 1 rfl) ?_
        refine ⟨fun _ => (hS.sublist (.cons_cons _ (.cons _ (List.nil_sublist _)))), ?_⟩
        refine dq 7 rfl (by kernel_rfl) (by kernel_rfl) (by kernel_rfl) rfl rfl (fun w hS => addw rfl rfl rfl rfl ⟨rfl, rfl⟩) (hS.sublist (.cons_cons _ (.cons _ (List.nil_sublist _)))) ?_
        refine dl 8 rfl (by kernel_rfl) ?_
        refine mpe (m := m) (a := s) 1 Tryz.underlying133 mk133 zr3 hS rfl rfl rfl rfl rfl ?_
        intro w hS
        refine ⟨fun _ => (hS.sublist (.cons_cons _ (.cons _ (List.nil_sublist _)))), ?_⟩
        refine dq 9 rfl (by kernel_rfl) (by kernel_rfl) (by kernel_rfl) rfl rfl (fun w hS => ext rfl rfl rfl rfl ⟨rfl, rfl⟩) (hS.sublist (.cons_cons _ (.cons _ (List.nil_sublist _)))) ?_
        refine dl 10 rfl (by kernel_rfl) ?_
        refine ens (m := mPut m s 0) (a := s) 1 (mPos m s) hS rfl rfl rfl rfl rfl rfl (mPut_has _ _ _) ?_
        intro w hS
        refine ⟨fun h => (by cases h), ?_⟩
        refine de (by kernel_rfl) ?_
        refine wq_then ?_
        refine wc_seq ?_
        refine rg ?_
        refine mv rfl rfl rfl ?_
        refine nilp rfl rfl rfl ?_
        refine fan (0) (0) Tryz.underlying135 rfl sz9 (by decide) rfl rfl rfl rfl (by omega) ?_
        refine lo 0 sc9 hS rfl rfl rfl rfl rfl ?_
        refine mv rfl rfl rfl ?_
        refine eqs rfl rfl rfl rfl ?_
        refine wq_then ?_
        refine wc_if rfl (fun hc2 => ?_) (fun hc2 => ?_)
        · skip
          try simp only [SB] at hc2
          refine rg ?_
          refine asg rfl rfl rfl ?_
          refine wq_then ?_
          refine wc_ret ?_
          refine q_then_ret ?_
          refine fin1 (v := .bool (false)) rfl rfl ?_
          first | exact ⟨_, _, rfl, ⟨_, _, rfl, rfl⟩, hS⟩ | (obtain ⟨e1, e2⟩ := mv_no (mv := mvs) (ad := ad) (s := s) (fx := fx) (by simp_all); exact ⟨_, _, rfl, ⟨_, _, rfl, rfl⟩, by rw [e1, e2]; exact hS⟩) | (obtain ⟨e1, e2⟩ := mv_yes (mv := mvs) (ad := ad) (s := s) (fx := fx) (by simp_all) (by simp_all) (by simp_all); exact ⟨_, _, rfl, ⟨_, _, rfl, rfl⟩, by rw [e1, e2]; exact hS⟩)
        · skip
          try simp only [SB] at hc2
          refine wc_skip ?_
          refine wq_then ?_
          refine rg ?_
          refine mv rfl rfl rfl ?_
          refine mv rfl rfl rfl ?_
          refine nilp rfl rfl rfl ?_
          refine fan (0) (0) Tryz.underlying135 rfl sz9 (by decide) rfl rfl rfl rfl (by omega) ?_
          refine st 0 sz9 hS rfl rfl rfl rfl rfl rfl (by show (0 : Nat) < 4; decide) rfl ?_
          intro w hS
          refine wq_then ?_
          refine rg ?_
          refine mv rfl rfl rfl ?_
          refine nilp rfl rfl rfl ?_
          refine fan (2) (2) Tryz.underlying135 rfl sz3 (by decide) rfl rfl rfl rfl (by omega) ?_
          refine lo 0 sc3 hS rfl rfl rfl rfl rfl ?_
          refine addi (by omega) (by omega) rfl rfl rfl rfl ?_
          refine nilp rfl rfl rfl ?_
          refine fan (2) (2) Tryz.underlying135 rfl sz3 (by decide) rfl rfl rfl rfl (by omega) ?_
          refine st 0 sz3 hS rfl rfl rfl rfl rfl rfl (by show (2 : Nat) < 4; decide) rfl ?_
          intro w hS
          refine wq_then ?_
          refine rg ?_
          refine asg rfl rfl rfl ?_
          refine wq_then ?_
          refine wc_ret ?_
          refine fin1 (v := .bool (true)) rfl rfl ?_
          first | exact ⟨_, _, rfl, ⟨_, _, rfl, rfl⟩, hS⟩ | (obtain ⟨e1, e2⟩ := mv_no (mv := mvs) (ad := ad) (s := s) (fx := fx) (by simp_all); exact ⟨_, _, rfl, ⟨_, _, rfl, rfl⟩, by rw [e1, e2]; exact hS⟩) | (obtain ⟨e1, e2⟩ := mv_yes (mv := mvs) (ad := ad) (s := s) (fx := fx) (by simp_all) (by simp_all) (by simp_all); exact ⟨_, _, rfl, ⟨_, _, rfl, rfl⟩, by rw [e1, e2]; exact hS⟩)
      · skip
        refine mpe (m := m) (a := s) 1 Tryz.underlying133 mk133 zr3 hS rfl rfl rfl rfl rfl ?_
        intro w hS
        refine ⟨fun _ => (hS.sublist (.cons_cons _ (.cons _ (List.nil_sublist _)))), ?_⟩
        refine dq 9 rfl (by kernel_rfl) (by kernel_rfl) (by kernel_rfl) rfl rfl (fun w hS => ext rfl rfl rfl rfl ⟨rfl, rfl⟩) (hS.sublist (.cons_cons _ (.cons _ (List.nil_sublist _)))) ?_
        refine dl 6 rfl (by kernel_rfl) ?_
        refine lku (m := mPut m s 0) (a := s) Tryz.underlying133 mk133 zr3 rfl rfl rfl rfl (hS.get 1 rfl) ?_
        refine ⟨fun _ => (hS.sublist (.cons_cons _ (.cons _ (List.nil_sublist _)))), ?_⟩
        refine dq 7 rfl (by kernel_rfl) (by kernel_rfl) (by kernel_rfl) rfl rfl (fun w hS => addw rfl rfl rfl rfl ⟨rfl, rfl⟩) (hS.sublist (.cons_cons _ (.cons _ (List.nil_sublist _)))) ?_
        refine dl 10 rfl (by kernel_rfl) ?_
        refine ens (m := mPut m s 0) (a := s) 1 (mPos m s) hS rfl rfl rfl rfl rfl rfl (mPut_has _ _ _) ?_
        intro w hS
        refine ⟨fun h => (by cases h), ?_⟩
        refine de (by kernel_rfl) ?_
        refine wq_then ?_
        refine wc_seq ?_
        refine rg ?_
        refine mv rfl rfl rfl ?_
        refine nilp rfl rfl rfl ?_
        refine fan (0) (0) Tryz.underlying135 rfl sz9 (by decide) rfl rfl rfl rfl (by omega) ?_
        refine lo 0 sc9 hS rfl rfl rfl rfl rfl ?_
        refine mv rfl rfl rfl ?_
        refine eqs rfl rfl rfl rfl ?_
        refine wq_then ?_
        refine wc_if rfl (fun hc3 => ?_) (fun hc3 => ?_)
        · skip
          try simp only [SB] at hc3
          refine rg ?_
          refine asg rfl rfl rfl ?_
          refine wq_then ?_
          refine wc_ret ?_
          refine q_then_ret ?_
          refine fin1 (v := .bool (false)) rfl rfl ?_
          first | exact ⟨_, _, rfl, ⟨_, _, rfl, rfl⟩, hS⟩ | (obtain ⟨e1, e2⟩ := mv_no (mv := mvs) (ad := ad) (s := s) (fx := fx) (by simp_all); exact ⟨_, _, rfl, ⟨_, _, rfl, rfl⟩, by rw [e1, e2]; exact hS⟩) | (obtain ⟨e1, e2⟩ := mv_yes (mv := mvs) (ad := ad) (s := s) (fx := fx) (by simp_all) (by simp_all) (by simp_all); exact ⟨_, _, rfl, ⟨_, _, rfl, rfl⟩, by rw [e1, e2]; exact hS⟩)
        · skip
          try simp only [SB] at hc3
          refine wc_skip ?_
          refine wq_then ?_
          refine rg ?_
          refine mv rfl rfl rfl ?_
          refine mv rfl rfl rfl ?_
          refine nilp rfl rfl rfl ?_
          refine fan (0) (0) Tryz.underlying135 rfl sz9 (by decide) rfl rfl rfl rfl (by omega) ?_
          refine st 0 sz9 hS rfl rfl rfl rfl rfl rfl (by show (0 : Nat) < 4; decide) rfl ?_
          intro w hS
          refine wq_then ?_
          refine rg ?_
          refine mv rfl rfl rfl ?_
          refine nilp rfl rfl rfl ?_
          refine fan (2) (2) Tryz.underlying135 rfl sz3 (by decide) rfl rfl rfl rfl (by omega) ?_
          refine lo 0 sc3 hS rfl rfl rfl rfl rfl ?_
          refine addi (by omega) (by omega) rfl rfl rfl rfl ?_
          refine nilp rfl rfl rfl ?_
          refine fan (2) (2) Tryz.underlying135 rfl sz3 (by decide) rfl rfl rfl rfl (by omega) ?_
          refine st 0 sz3 hS rfl rfl rfl rfl rfl rfl (by show (2 : Nat) < 4; decide) rfl ?_
          intro w hS
          refine wq_then ?_
          refine rg ?_
          refine asg rfl rfl rfl ?_
          refine wq_then ?_
          refine wc_ret ?_
          refine fin1 (v := .bool (true)) rfl rfl ?_
          first | exact ⟨_, _, rfl, ⟨_, _, rfl, rfl⟩, hS⟩ | (obtain ⟨e1, e2⟩ := mv_no (mv := mvs) (ad := ad) (s := s) (fx := fx) (by simp_all); exact ⟨_, _, rfl, ⟨_, _, rfl, rfl⟩, by rw [e1, e2]; exact hS⟩) | (obtain ⟨e1, e2⟩ := mv_yes (mv := mvs) (ad := ad) (s := s) (fx := fx) (by simp_all) (by simp_all) (by simp_all); exact ⟨_, _, rfl, ⟨_, _, rfl, rfl⟩, by rw [e1, e2]; exact hS⟩)
end Go.Proofs.XS

/- walks -/
namespace Go.Proofs.XS
open Go Go.X Go.Proofs
set_option maxRecDepth 100000 in
theorem sp_session_Session_Receive_1 (b E c : Nat) (w0 : World) (hb : w0.heap[b]? = some (.cells (#[errV 33 c]) E)) : Calls Tryz.prog 51 #[Ptr b 0] w0 (Ret w0 (errV 33 c)) := by
  refine enter (args := [Ptr b 0]) Tryz.func51 rfl rfl ?_
  refine startw fun w hS => ?_
  refine rg ?_
  refine asg rfl rfl rfl ?_
  refine wq_then ?_
  refine rg ?_
  refine lod hb List.not_mem_nil sc27 hS rfl rfl rfl rfl ?_
  refine asg rfl rfl rfl ?_
  refine wq_then ?_
  refine wc_ret ?_
  refine fin1 (v := (errV 33 c)) rfl rfl ?_
  exact ⟨rfl, hS.drop⟩
end Go.Proofs.XS

/- walks -/
namespace Go.Proofs.XS
open Go Go.X Go.Proofs
set_option maxRecDepth 100000 in
theorem sp_echo_Echo_Take (pe E : Nat) (kv : Value) (s : UInt16) (x : UInt64) (w0 : World) (hpe : w0.heap[pe]? = some (.cells (#[kv]) E)) (hk : kv.oneCell' = true) : Calls Tryz.prog 55 #[Ptr pe 0, U16 s, U64 x] w0 (RetM w0 [pe] (fun v L' => ∃ pk, L' = [(pk, .cells #[U16 s, U64 x] 164), (pe, .cells #[Ptr pk 0] E)])) := by
  refine enter (args := [Ptr pe 0, U16 s, U64 x]) Tryz.func55 rfl rfl ?_
  refine startx (F := [pe]) (L := [(pe, .cells (#[kv]) E)]) (St.starts (X := [(pe, .cells (#[kv]) E)]) (fun p hp => by simp only [List.mem_cons, List.not_mem_nil, or_false] at hp; subst hp; exact hpe) (by simp)) fun w hS => ?_
  refine rg ?_
  refine mv rfl rfl rfl ?_
  refine nepn Tryz.underlying85 rfl rfl rfl rfl ?_
  refine wq_then ?_
  refine wc_if_t rfl ?_
  refine wc_region ?_
  refine mv rfl rfl rfl ?_
  refine mv rfl rfl rfl ?_
  refine mv rfl rfl rfl ?_
  refine bd (cs := #[U16 (s), U64 (x)]) rfl rfl rfl (by kernel_rfl) ?_
  refine bxa hS rfl rfl rfl ?_
  intro b12 w hb12 hS
  refine nilp rfl rfl rfl ?_
  refine fan (0) (0) Tryz.underlying158 rfl sz156 (by decide) rfl rfl rfl rfl (by omega) ?_
  refine st 1 sz156 hS rfl rfl rfl rfl rfl rfl Nat.zero_lt_one rfl ?_
  intro w hS
  refine q_norm_ret ?_
  refine fin0 rfl ?_
  exact ⟨_, _, rfl, ⟨_, rfl⟩, hS⟩
end Go.Proofs.XS

/- walks -/
namespace Go.Proofs.XS
open Go Go.X Go.Proofs
theorem sp_EchoTake (pe : Nat) (kp : Option (UInt16 × UInt64)) (st : UInt16) (x : UInt64) (Z : List (Nat × Obj)) (w0 : World) (hE : EchO pe kp Z) (hZ : ∀ p ∈ Z, w0.heap[p.1]? = some p.2) (hnd : (Z.map Prod.fst).Nodup) : Calls Tryz.prog 55 #[Ptr pe 0, U16 st, U64 x] w0 (RetM w0 (Z.map Prod.fst) fun _ Y => EchO pe (some (st, x)) Y) := by
  have key : ∃ kv E, w0.heap[pe]? = some (.cells #[kv] E) ∧ kv.oneCell' = true ∧ pe ∈ Z.map Prod.fst := by
    obtain ⟨E, ⟨rfl, rfl⟩ | ⟨pk, s, t, E2, rfl, rfl⟩⟩ := hE
    · exact ⟨.pointer none, E, hZ (pe, _) (by simp), rfl, by simp⟩
    · exact ⟨Ptr pk 0, E, hZ (pe, _) (by simp), rfl, by simp⟩
  obtain ⟨kv, E, hb, hk, hm⟩ := key
  refine (sp_echo_Echo_Take pe E kv st x w0 hb hk).mono fun e w' ⟨v, L, he, ⟨pk, hL⟩, hS⟩ => ⟨v, [(pe, .cells #[Ptr pk 0] E), (pk, .cells #[U16 st, U64 x] 164)], he, ⟨E, .inr ⟨pk, st, x, _, rfl, rfl⟩⟩, ?_⟩
  subst hL
  exact (hS.wkF (by simpa using hm)).perm (List.Perm.swap ..)
end Go.Proofs.XS

/- walks -/
namespace Go.Proofs.XS
open Go Go.X Go.Proofs
set_option maxRecDepth 100000 in
theorem sp_session_Session_Receive (s : Nat) (m : SS) (X : List (Nat × Obj)) (a : Option Addr) (n cap : Nat) (bs : List UInt8) (fr : List UInt8) (x : UInt64) (w0 : World) (hO : SesO s m X) (hX : ∀ p ∈ X, w0.heap[p.1]? = some p.2) (hnd : (X.map Prod.fst).Nodup) (hn : bs.length = n) (hN : n ≤ 1000000) (hcap : n ≤ cap) (hc : CelX (X.map Prod.fst) w0 a (c8 bs)) (hG : GlX 1 (X.map Prod.fst) w0) (hB : m.ac < 1000000000 ∧ m.rf < 1000000000 ∧ m.rc < 1000000000 ∧ m.mv < 1000000000) : Calls Tryz.prog 14 #[Ptr s 0, .slice a n cap, Str fr, U64 x] w0 (RetM w0 (X.map Prod.fst) (fun v L' => ∃ a' n' c' X' Y, v = .tuple #[.slice a' n' c', errV 33 (rcvE m bs)] ∧ SesO s (rcvM m bs fr x) X' ∧ Gives a' n' c' (rcvP m bs) Y ∧ L' = X' ++ Y)) := by
  refine enter (args := [Ptr s 0, .slice a n cap, Str fr, U64 x]) Tryz.func14 rfl rfl ?_
  obtain ⟨G, hGe⟩ : ∃ G, G = X.map Prod.fst := ⟨_, rfl⟩
  rw [← hGe] at hc hG ⊢
  obtain ⟨pp, pm, pc, pf, pe, t, c, E1, E2, E3, E4, E5, E6, mm, Z, hd1, hE, hXe⟩ := hO
  subst hXe
  refine startx (F := G) (L := [(s, .cells (#[Ptr pp 0, I (((m.dir : Nat) : Int)), Ptr t 0, Ptr pc 0, Ptr pf 0, Ptr pe 0, U16 (m.rl), I (((m.rc : Nat) : Int)), U32 (m.re), U64 (m.fs), .bool (m.cz)]) E1), (pf, .cells (#[I (((m.ac : Nat) : Int)), I (((m.rf : Nat) : Int)), U64 (m.ls)]) E2), (pc, .cells (#[U64 (m.nx), U64 (m.gv), .bool (false)]) E3), (t, .cells (tableC c m.key) E4), (c, .cells (cipherC m.key) E5), (pp, .cells (#[Str m.ad, .bool (m.fx), I (((m.mv : Nat) : Int)), .map (some pm)]) E6), (pm, mOb encS vI mm)] ++ (Z ++ [])) (by rw [hGe, List.append_nil]; exact St.starts hX hnd) fun w hS => ?_
  refine rg ?_
  refine asg rfl rfl rfl ?_
  refine al1 zr27 hS rfl rfl rfl ?_
  intro b9 w hb9 hS
  refine wq_then ?_
  refine wc_seq ?_
  refine rg ?_
  refine mv rfl rfl rfl ?_
  refine eqpn Tryz.underlying25 rfl rfl rfl rfl ?_
  refine mv rfl rfl rfl ?_
  refine mv rfl rfl rfl ?_
  refine nilp rfl rfl rfl ?_
  refine fan (10) (10) Tryz.underlying90 rfl sz4 (by decide) rfl rfl rfl rfl (by omega) ?_
  refine lo 1 sc4 hS rfl rfl rfl rfl rfl ?_
  refine pk_f rfl rfl rfl rfl ?_
  refine wq_then ?_
  refine wc_if rfl (fun hc1 => ?_) (fun hc1 => ?_)
  · skip
    try simp only [SB] at hc1
    have hcz : m.cz = true := hc1
    refine rg ?_
    refine mki cc33 rfl rfl rfl ?_
    refine asg rfl rfl rfl ?_
    refine st 0 sz27 hS rfl rfl rfl rfl rfl rfl Nat.zero_lt_one rfl ?_
    intro w hS
    refine wq_then ?_
    refine wc_ret ?_
    refine q_then_ret ?_
    refine fin2 (v := (.slice none 0 0)) (u := (.iface 33 (I (7)))) rfl rfl ⟨_, rfl, lv_c sc27 (hS.get 0 rfl) rfl⟩ ?_
    have eE : rcvE m bs = 7 := if_pos hcz
    have eM : rcvM m bs fr x = m := if_pos hcz
    have eP : rcvP m bs = [] := if_neg (by rw [eE]; decide)
    exact ⟨_, _, rfl, ⟨none, 0, 0, [(s, .cells (#[Ptr pp 0, I (((m.dir : Nat) : Int)), Ptr t 0, Ptr pc 0, Ptr pf 0, Ptr pe 0, U16 (m.rl), I (((m.rc : Nat) : Int)), U32 (m.re), U64 (m.fs), .bool (m.cz)]) E1), (pf, .cells (#[I (((m.ac : Nat) : Int)), I (((m.rf : Nat) : Int)), U64 (m.ls)]) E2), (pc, .cells (#[U64 (m.nx), U64 (m.gv), .bool (false)]) E3), (t, .cells (tableC c m.key) E4), (c, .cells (cipherC m.key) E5), (pp, .cells (#[Str m.ad, .bool (m.fx), I (((m.mv : Nat) : Int)), .map (some pm)]) E6), (pm, mOb encS vI mm)] ++ Z, [], by rw [eE]; rfl, by rw [eM]; exact ⟨pp, pm, pc, pf, pe, t, c, _, _, _, _, _, _, _, _, hd1, hE, rfl⟩, by rw [eP]; exact Gives.nil, rfl⟩, St.pk0 (U := [(b9, .cells (#[(.iface 33 (I (7)))]) 27)]) (B := [(s, .cells (#[Ptr pp 0, I (((m.dir : Nat) : Int)), Ptr t 0, Ptr pc 0, Ptr pf 0, Ptr pe 0, U16 (m.rl), I (((m.rc : Nat) : Int)), U32 (m.re), U64 (m.fs), .bool (m.cz)]) E1), (pf, .cells (#[I (((m.ac : Nat) : Int)), I (((m.rf : Nat) : Int)), U64 (m.ls)]) E2), (pc, .cells (#[U64 (m.nx), U64 (m.gv), .bool (false)]) E3), (t, .cells (tableC c m.key) E4), (c, .cells (cipherC m.key) E5), (pp, .cells (#[Str m.ad, .bool (m.fx), I (((m.mv : Nat) : Int)), .map (some pm)]) E6), (pm, mOb encS vI mm)]) (Z := Z) (R := []) hS⟩
  · skip
    try simp only [SB] at hc1
    have hcz : ¬ m.cz = true := by simp [hc1]
    refine wc_skip ?_
    refine wq_then ?_
    refine rg ?_
    refine mv rfl rfl rfl ?_
    refine nilp rfl rfl rfl ?_
    refine fan (2) (2) Tryz.underlying90 rfl sz77 (by decide) rfl rfl rfl rfl (by omega) ?_
    refine lo 1 sc77 hS rfl rfl rfl rfl rfl ?_
    refine mv rfl rfl rfl ?_
    refine cs cf50 hS rfl rfl rfl rfl rfl (sp_packet_Decode (t) (c) (m.key) (a) (n) (cap) (bs) _ (⟨⟨_, hS.get 4 rfl⟩, _, hS.get 5 rfl⟩) (by first | rfl | omega | (simp; omega) | (simp; done)) (by omega) (hc _ _ hS) (by omega) (hG _ _ hS)) ?_
    rintro _ X31 w ⟨a31, n31, c31, rfl, hl31, hm31, hc31, hR31⟩ hS
    have hS := St.tailin (X := X31) hS [(b9, .cells (#[.nilIface]) 27), (s, .cells (#[Ptr pp 0, I (((m.dir : Nat) : Int)), Ptr t 0, Ptr pc 0, Ptr pf 0, Ptr pe 0, U16 (m.rl), I (((m.rc : Nat) : Int)), U32 (m.re), U64 (m.fs), .bool (m.cz)]) E1), (pf, .cells (#[I (((m.ac : Nat) : Int)), I (((m.rf : Nat) : Int)), U64 (m.ls)]) E2), (pc, .cells (#[U64 (m.nx), U64 (m.gv), .bool (false)]) E3), (t, .cells (tableC c m.key) E4), (c, .cells (cipherC m.key) E5), (pp, .cells (#[Str m.ad, .bool (m.fx), I (((m.mv : Nat) : Int)), .map (some pm)]) E6), (pm, mOb encS vI mm)] (Z ++ []) rfl
    have hS : St w0 G ([(b9, .cells (#[.nilIface]) 27), (s, .cells (#[Ptr pp 0, I (((m.dir : Nat) : Int)), Ptr t 0, Ptr pc 0, Ptr pf 0, Ptr pe 0, U16 (m.rl), I (((m.rc : Nat) : Int)), U32 (m.re), U64 (m.fs), .bool (m.cz)]) E1), (pf, .cells (#[I (((m.ac : Nat) : Int)), I (((m.rf : Nat) : Int)), U64 (m.ls)]) E2), (pc, .cells (#[U64 (m.nx), U64 (m.gv), .bool (false)]) E3), (t, .cells (tableC c m.key) E4), (c, .cells (cipherC m.key) E5), (pp, .cells (#[Str m.ad, .bool (m.fx), I (((m.mv : Nat) : Int)), .map (some pm)]) E6), (pm, mOb encS vI mm)] ++ (Z ++ (X31 ++ []))) w := St.swapT (A := [(b9, .cells (#[.nilIface]) 27), (s, .cells (#[Ptr pp 0, I (((m.dir : Nat) : Int)), Ptr t 0, Ptr pc 0, Ptr pf 0, Ptr pe 0, U16 (m.rl), I (((m.rc : Nat) : Int)), U32 (m.re), U64 (m.fs), .bool (m.cz)]) E1), (pf, .cells (#[I (((m.ac : Nat) : Int)), I (((m.rf : Nat) : Int)), U64 (m.ls)]) E2), (pc, .cells (#[U64 (m.nx), U64 (m.gv), .bool (false)]) E3), (t, .cells (tableC c m.key) E4), (c, .cells (cipherC m.key) E5), (pp, .cells (#[Str m.ad, .bool (m.fx), I (((m.mv : Nat) : Int)), .map (some pm)]) E6), (pm, mOb encS vI mm)]) (X := X31) (Z := Z) (R := []) hS
    refine mv rfl rfl rfl ?_
    refine ext rfl rfl rfl rfl ?_
    refine ext rfl rfl rfl rfl ?_
    refine ala zr100 hS rfl rfl ?_
    intro b10 w hb10 hS
    refine sa 0 ag100 hS rfl rfl rfl (by kernel_rfl) rfl rfl rfl ?_
    intro w hS
    refine st 1 sz27 hS rfl rfl rfl (errV_one _ _) (errV_cells _ _) rfl Nat.zero_lt_one rfl ?_
    intro w hS
    refine wq_then ?_
    refine rg ?_
    refine mkf rfl rfl rfl ?_
    refine asg rfl rfl rfl ?_
    refine wq_then ?_
    refine wc_seq ?_
    refine rd mo 20 (fun w => St w0 G [(b10, .cells (#[I (((dcdD m.key bs : Nat) : Int)), U64 (dcdS m.key bs), U16 (dcdT m.key bs), U16 (dcdM m.key bs), .slice a31 n31 c31]) 100), (s, .cells (#[Ptr pp 0, I (((m.dir : Nat) : Int)), Ptr t 0, Ptr pc 0, Ptr pf 0, Ptr pe 0, U16 (m.rl), I (((m.rc : Nat) : Int)), U32 (m.re), U64 (m.fs), .bool (m.cz)]) E1)] w) ?_
    have hS := hS.drew
    refine dq 0 rfl (by kernel_rfl) (by kernel_rfl) (by kernel_rfl) rfl rfl (fun w hS => mv rfl rfl rfl ⟨rfl, rfl⟩) (hS.sublist (.cons_cons _ (.cons _ (.cons_cons _ (.cons _ (.cons _ (.cons _ (.cons _ (.cons _ (.cons _ (List.nil_sublist _))))))))))) ?_
    refine dq 1 rfl (by kernel_rfl) (by kernel_rfl) (by kernel_rfl) rfl rfl (fun w hS => fan (0) (0) Tryz.underlying100 rfl sz3 (by decide) rfl rfl rfl rfl (by omega) ⟨rfl, rfl⟩) (hS.sublist (.cons_cons _ (.cons _ (.cons_cons _ (.cons _ (.cons _ (.cons _ (.cons _ (.cons _ (.cons _ (List.nil_sublist _))))))))))) ?_
    refine dq 2 rfl (by kernel_rfl) (by kernel_rfl) (by kernel_rfl) rfl rfl (fun w hS => lo 0 sc3 hS rfl rfl rfl rfl rfl ⟨rfl, rfl⟩) (hS.sublist (.cons_cons _ (.cons _ (.cons_cons _ (.cons _ (.cons _ (.cons _ (.cons _ (.cons _ (.cons _ (List.nil_sublist _))))))))))) ?_
    refine dq 3 rfl (by kernel_rfl) (by kernel_rfl) (by kernel_rfl) rfl rfl (fun w hS => mv rfl rfl rfl ⟨rfl, rfl⟩) (hS.sublist (.cons_cons _ (.cons _ (.cons_cons _ (.cons _ (.cons _ (.cons _ (.cons _ (.cons _ (.cons _ (List.nil_sublist _))))))))))) ?_
    refine dq 4 rfl (by kernel_rfl) (by kernel_rfl) (by kernel_rfl) rfl rfl (fun w hS => nilp rfl rfl rfl ⟨rfl, rfl⟩) (hS.sublist (.cons_cons _ (.cons _ (.cons_cons _ (.cons _ (.cons _ (.cons _ (.cons _ (.cons _ (.cons _ (List.nil_sublist _))))))))))) ?_
    refine dq 5 rfl (by kernel_rfl) (by kernel_rfl) (by kernel_rfl) rfl rfl (fun w hS => fan (1) (1) Tryz.underlying90 rfl sz3 (by decide) rfl rfl rfl rfl (by omega) ⟨rfl, rfl⟩) (hS.sublist (.cons_cons _ (.cons _ (.cons_cons _ (.cons _ (.cons _ (.cons _ (.cons _ (.cons _ (.cons _ (List.nil_sublist _))))))))))) ?_
    refine dq 6 rfl (by kernel_rfl) (by kernel_rfl) (by kernel_rfl) rfl rfl (fun w hS => lo 1 sc3 hS rfl rfl rfl rfl rfl ⟨rfl, rfl⟩) (hS.sublist (.cons_cons _ (.cons _ (.cons_cons _ (.cons _ (.cons _ (.cons _ (.cons _ (.cons _ (.cons _ (List.nil_sublist _))))))))))) ?_
    refine dq 7 rfl (by kernel_rfl) (by kernel_rfl) (by kernel_rfl) rfl rfl (fun w hS => eqi rfl rfl rfl rfl ⟨rfl, rfl⟩) (hS.sublist (.cons_cons _ (.cons _ (.cons_cons _ (.cons _ (.cons _ (.cons _ (.cons _ (.cons _ (.cons _ (List.nil_sublist _))))))))))) ?_
    refine dq 9 rfl (by kernel_rfl) (by kernel_rfl) (by kernel_rfl) rfl rfl (fun w hS => mv rfl rfl rfl ⟨rfl, rfl⟩) (hS.sublist (.cons_cons _ (.cons _ (.cons_cons _ (.cons _ (.cons _ (.cons _ (.cons _ (.cons _ (.cons _ (List.nil_sublist _))))))))))) ?_
    refine dq 10 rfl (by kernel_rfl) (by kernel_rfl) (by kernel_rfl) rfl rfl (fun w hS => nilp rfl rfl rfl ⟨rfl, rfl⟩) (hS.sublist (.cons_cons _ (.cons _ (.cons_cons _ (.cons _ (.cons _ (.cons _ (.cons _ (.cons _ (.cons _ (List.nil_sublist _))))))))))) ?_
    refine dq 11 rfl (by kernel_rfl) (by kernel_rfl) (by kernel_rfl) rfl rfl (fun w hS => fan (4) (4) Tryz.underlying90 rfl sz83 (by decide) rfl rfl rfl rfl (by omega) ⟨rfl, rfl⟩) (hS.sublist (.cons_cons _ (.cons _ (.cons_cons _ (.cons _ (.cons _ (.cons _ (.cons _ (.cons _ (.cons _ (List.nil_sublist _))))))))))) ?_
    refine dq 12 rfl (by kernel_rfl) (by kernel_rfl) (by kernel_rfl) rfl rfl (fun w hS => lo 1 sc83 hS rfl rfl rfl rfl rfl ⟨rfl, rfl⟩) (hS.sublist (.cons_cons _ (.cons _ (.cons_cons _ (.cons _ (.cons _ (.cons _ (.cons _ (.cons _ (.cons _ (List.nil_sublist _))))))))))) ?_
    refine dq 13 rfl (by kernel_rfl) (by kernel_rfl) (by kernel_rfl) rfl rfl (fun w hS => fan (1) (1) Tryz.underlying100 rfl sz24 (by decide) rfl rfl rfl rfl (by omega) ⟨rfl, rfl⟩) (hS.sublist (.cons_cons _ (.cons _ (.cons_cons _ (.cons _ (.cons _ (.cons _ (.cons _ (.cons _ (.cons _ (List.nil_sublist _))))))))))) ?_
    refine dq 14 rfl (by kernel_rfl) (by kernel_rfl) (by kernel_rfl) rfl rfl (fun w hS => lo 0 sc24 hS rfl rfl rfl rfl rfl ⟨rfl, rfl⟩) (hS.sublist (.cons_cons _ (.cons _ (.cons_cons _ (.cons _ (.cons _ (.cons _ (.cons _ (.cons _ (.cons _ (List.nil_sublist _))))))))))) ?_
    refine dl 8 rfl (by kernel_rfl) ?_
    refine cs cf35 hS rfl rfl rfl rfl rfl (sp_session_when (((((dcdD m.key bs : Nat) : Int) : Int) == ((m.dir : Nat) : Int))) (8) _) ?_
    rintro _ _ w ⟨p43, q43, rfl, rfl⟩ hS
    refine ⟨fun _ => (hS.sublist (.cons _ (.cons _ (.cons_cons _ (.cons _ (.cons_cons _ (.cons _ (.cons _ (.cons _ (.cons _ (.cons _ (.cons _ (List.nil_sublist _))))))))))))), ?_⟩
    refine dl 15 rfl (by kernel_rfl) ?_
    refine cv cf52 hS rfl rfl rfl rfl rfl (sp_filter_Filter_Fresh (pf) (_) (m.ac) (m.rf) (m.ls) ((dcdS m.key bs)) _ (hS.get 5 rfl)) ?_
    intro w hS
    refine ⟨fun _ => (hS.sublist (.cons _ (.cons _ (.cons_cons _ (.cons _ (.cons_cons _ (.cons _ (.cons _ (.cons _ (.cons _ (.cons _ (.cons _ (List.nil_sublist _))))))))))))), ?_⟩
    refine dq 16 rfl (by kernel_rfl) (by kernel_rfl) (by kernel_rfl) rfl rfl (fun w hS => notb rfl rfl rfl ⟨rfl, rfl⟩) (hS.sublist (.cons _ (.cons _ (.cons_cons _ (.cons _ (.cons_cons _ (.cons _ (.cons _ (.cons _ (.cons _ (.cons _ (.cons _ (List.nil_sublist _))))))))))))) ?_
    refine dl 17 rfl (by kernel_rfl) ?_
    refine cs cf35 hS rfl rfl rfl rfl rfl (sp_session_when ((!(frsh m.ls (dcdS m.key bs)))) (9) _) ?_
    rintro _ _ w ⟨p52, q52, rfl, rfl⟩ hS
    refine ⟨fun _ => (hS.sublist (.cons _ (.cons _ (.cons _ (.cons _ (.cons_cons _ (.cons _ (.cons_cons _ (.cons _ (.cons _ (.cons _ (.cons _ (.cons _ (.cons _ (List.nil_sublist _))))))))))))))), ?_⟩
    refine dl 18 rfl (by kernel_rfl) ?_
    refine bsl (cs := #[.func (.func 51) #[] #[Ptr b9 0], .func (.func 78) #[] #[Ptr p43 0, Ptr q43 0], .func (.func 78) #[] #[Ptr p52 0, Ptr q52 0]]) sl160 hS rfl rfl rfl rfl (by kernel_rfl) ?_
    intro b53 w hb53 hS
    refine ⟨fun _ => (hS.sublist (.cons _ (.cons _ (.cons _ (.cons _ (.cons _ (.cons_cons _ (.cons _ (.cons_cons _ (.cons _ (.cons _ (.cons _ (.cons _ (.cons _ (.cons _ (List.nil_sublist _)))))))))))))))), ?_⟩
    refine dl 19 rfl (by kernel_rfl) ?_
    refine cv cf34 hS rfl rfl rfl rfl rfl (sp_session_first b53 95 3 _ (nth4 51 78 78 78) (nth4 ([Ptr b9 0]) ([Ptr p43 0, Ptr q43 0]) ([Ptr p52 0, Ptr q52 0]) ([Ptr p52 0, Ptr q52 0])) (nth4 (dcdE m.key bs) (if ((((dcdD m.key bs : Nat) : Int) : Int) == ((m.dir : Nat) : Int)) = true then 8 else 0) (if (!(frsh m.ls (dcdS m.key bs))) = true then 9 else 0) 0) _ (by omega) (hS.get 0 rfl) (fun k hk => by rcases (show k = 0 ∨ k = 1 ∨ k = 2 by omega) with rfl | rfl | rfl <;> rfl) (fun k hk => by rcases (show k = 0 ∨ k = 1 ∨ k = 2 by omega) with rfl | rfl | rfl <;> first | exact cf51 | exact cf78) (fun k hk W hW => by
        rcases (show k = 0 ∨ k = 1 ∨ k = 2 by omega) with rfl | rfl | rfl
        · exact sp_session_Session_Receive_1 b9 _ (dcdE m.key bs) W (hW.old (hS.get 6 rfl) List.not_mem_nil)
        · exact sp_session_when_1 p43 _ q43 _ ((((dcdD m.key bs : Nat) : Int) : Int) == ((m.dir : Nat) : Int)) 8 W (hW.old (hS.get 4 rfl) List.not_mem_nil) (hW.old (hS.get 3 rfl) List.not_mem_nil) (by decide)
        · exact sp_session_when_1 p52 _ q52 _ (!(frsh m.ls (dcdS m.key bs))) 9 W (hW.old (hS.get 2 rfl) List.not_mem_nil) (hW.old (hS.get 1 rfl) List.not_mem_nil) (by decide))) ?_
    intro w hS
    refine ⟨fun _ => (hS.sublist (.cons _ (.cons _ (.cons _ (.cons _ (.cons _ (.cons_cons _ (.cons _ (.cons_cons _ (.cons _ (.cons _ (.cons _ (.cons _ (.cons _ (.cons _ (List.nil_sublist _)))))))))))))))), ?_⟩
    refine dl 20 rfl (by kernel_rfl) ?_
    refine asg rfl rfl rfl ?_
    refine ⟨fun h => (by cases h), ?_⟩
    refine de (by kernel_rfl) ?_
    refine wq_then ?_
    refine rg ?_
    refine mv rfl rfl rfl ?_
    refine neE (C := 33) (c := (fstE (nth4 (dcdE m.key bs) (if ((((dcdD m.key bs : Nat) : Int) : Int) == ((m.dir : Nat) : Int)) = true then 8 else 0) (if (!(frsh m.ls (dcdS m.key bs))) = true then 9 else 0) 0) 3)) Tryz.underlying27 rfl rfl rfl ?_
    refine wq_then ?_
    refine wc_if rfl (fun hc2 => ?_) (fun hc2 => ?_)
    · skip
      try simp only [SB] at hc2
      have hE2 : ¬ rcvE m bs = 0 := by simpa [rcvE, hcz] using hc2
      refine rg ?_
      refine mv rfl rfl rfl ?_
      refine nilp rfl rfl rfl ?_
      refine fan (4) (4) Tryz.underlying90 rfl sz83 (by decide) rfl rfl rfl rfl (by omega) ?_
      refine lo 7 sc83 hS rfl rfl rfl rfl rfl ?_
      refine cm cf53 rfl rfl rfl rfl rfl (sp_filter_Filter_Refuse (pf) (_) (m.ac) (m.rf) (m.ls) _ (hS.get 8 rfl) (by omega)) ?_
      rintro _ _ w rfl hS1
      have hS : St w0 G ([(b53, .cells (#[.func (.func 51) #[] #[Ptr b9 0], .func (.func 78) #[] #[Ptr p43 0, Ptr q43 0], .func (.func 78) #[] #[Ptr p52 0, Ptr q52 0]]) 95), (q52, .cells (#[I (9)]) 33), (p52, .cells (#[.bool ((!(frsh m.ls (dcdS m.key bs))))]) 4), (q43, .cells (#[I (8)]) 33), (p43, .cells (#[.bool (((((dcdD m.key bs : Nat) : Int) : Int) == ((m.dir : Nat) : Int)))]) 4), (b10, .cells (#[I (((dcdD m.key bs : Nat) : Int)), U64 (dcdS m.key bs), U16 (dcdT m.key bs), U16 (dcdM m.key bs), .slice a31 n31 c31]) 100), (b9, .cells (#[(errV 33 (dcdE m.key bs))]) 27), (s, .cells (#[Ptr pp 0, I (((m.dir : Nat) : Int)), Ptr t 0, Ptr pc 0, Ptr pf 0, Ptr pe 0, U16 (m.rl), I (((m.rc : Nat) : Int)), U32 (m.re), U64 (m.fs), .bool (m.cz)]) E1), (pf, .cells (#[I ((m.ac : Int)), I (((m.rf + 1 : Nat) : Int)), U64 (m.ls)]) E2), (pc, .cells (#[U64 (m.nx), U64 (m.gv), .bool (false)]) E3), (t, .cells (tableC c m.key) E4), (c, .cells (cipherC m.key) E5), (pp, .cells (#[Str m.ad, .bool (m.fx), I (((m.mv : Nat) : Int)), .map (some pm)]) E6), (pm, mOb encS vI mm)] ++ (Z ++ (X31 ++ []))) w := St.calls (L1 := [(pf, .cells (#[I (((m.ac : Nat) : Int)), I (((m.rf : Nat) : Int)), U64 (m.ls)]) E2)]) (N := [(pf, .cells (#[I ((m.ac : Int)), I (((m.rf + 1 : Nat) : Int)), U64 (m.ls)]) E2)]) (L2 := []) hS [8] rfl rfl hS1
      refine wq_then ?_
      refine rg ?_
      refine mv rfl rfl rfl ?_
      refine asg rfl rfl rfl ?_
      refine st 6 sz27 hS rfl rfl rfl (errV_one _ _) (errV_cells _ _) rfl Nat.zero_lt_one rfl ?_
      intro w hS
      refine wq_then ?_
      refine wc_ret ?_
      refine q_then_ret ?_
      refine fin2 (v := (.slice none 0 0)) (u := (errV 33 (fstE (nth4 (dcdE m.key bs) (if ((((dcdD m.key bs : Nat) : Int) : Int) == ((m.dir : Nat) : Int)) = true then 8 else 0) (if (!(frsh m.ls (dcdS m.key bs))) = true then 9 else 0) 0) 3))) rfl rfl ⟨_, rfl, lv_c sc27 (hS.get 6 rfl) rfl⟩ ?_
      have eM : rcvM m bs fr x = { m with rf := m.rf + 1 } := by rw [rcvM, if_neg hcz, if_neg hE2]
      have eP : rcvP m bs = [] := if_neg hE2
      skip
      exact ⟨_, _, rfl, ⟨none, 0, 0, [(s, .cells (#[Ptr pp 0, I (((m.dir : Nat) : Int)), Ptr t 0, Ptr pc 0, Ptr pf 0, Ptr pe 0, U16 (m.rl), I (((m.rc : Nat) : Int)), U32 (m.re), U64 (m.fs), .bool (m.cz)]) E1), (pf, .cells (#[I ((m.ac : Int)), I (((m.rf + 1 : Nat) : Int)), U64 (m.ls)]) E2), (pc, .cells (#[U64 (m.nx), U64 (m.gv), .bool (false)]) E3), (t, .cells (tableC c m.key) E4), (c, .cells (cipherC m.key) E5), (pp, .cells (#[Str m.ad, .bool (m.fx), I (((m.mv : Nat) : Int)), .map (some pm)]) E6), (pm, mOb encS vI mm)] ++ Z, [], by rw [rcvE_o hcz], by rw [eM]; exact ⟨pp, pm, pc, pf, pe, t, c, _, _, _, _, _, _, _, _, hd1, hE, rfl⟩, by rw [eP]; exact Gives.nil, rfl⟩, St.pk0 (U := [(b53, .cells (#[.func (.func 51) #[] #[Ptr b9 0], .func (.func 78) #[] #[Ptr p43 0, Ptr q43 0], .func (.func 78) #[] #[Ptr p52 0, Ptr q52 0]]) 95), (q52, .cells (#[I (9)]) 33), (p52, .cells (#[.bool ((!(frsh m.ls (dcdS m.key bs))))]) 4), (q43, .cells (#[I (8)]) 33), (p43, .cells (#[.bool (((((dcdD m.key bs : Nat) : Int) : Int) == ((m.dir : Nat) : Int)))]) 4), (b10, .cells (#[I (((dcdD m.key bs : Nat) : Int)), U64 (dcdS m.key bs), U16 (dcdT m.key bs), U16 (dcdM m.key bs), .slice a31 n31 c31]) 100), (b9, .cells (#[(errV 33 (fstE (nth4 (dcdE m.key bs) (if ((((dcdD m.key bs : Nat) : Int) : Int) == ((m.dir : Nat) : Int)) = true then 8 else 0) (if (!(frsh m.ls (dcdS m.key bs))) = true then 9 else 0) 0) 3))]) 27)]) (B := [(s, .cells (#[Ptr pp 0, I (((m.dir : Nat) : Int)), Ptr t 0, Ptr pc 0, Ptr pf 0, Ptr pe 0, U16 (m.rl), I (((m.rc : Nat) : Int)), U32 (m.re), U64 (m.fs), .bool (m.cz)]) E1), (pf, .cells (#[I ((m.ac : Int)), I (((m.rf + 1 : Nat) : Int)), U64 (m.ls)]) E2), (pc, .cells (#[U64 (m.nx), U64 (m.gv), .bool (false)]) E3), (t, .cells (tableC c m.key) E4), (c, .cells (cipherC m.key) E5), (pp, .cells (#[Str m.ad, .bool (m.fx), I (((m.mv : Nat) : Int)), .map (some pm)]) E6), (pm, mOb encS vI mm)]) (Z := Z) (R := (X31 ++ [])) hS⟩
    · skip
      try simp only [SB] at hc2
      have hE2 : rcvE m bs = 0 := by simpa [rcvE, hcz] using hc2
      obtain ⟨h1, h2, h3⟩ := fst3_0.1 ((rcvE_o hcz).symm.trans hE2)
      have hfr : frsh m.ls (dcdS m.key bs) = true := by simpa using h3
      refine wc_skip ?_
      refine wq_then ?_
      refine wc_seq ?_
      refine rd mo 7 (fun w => St w0 G [(b10, .cells (#[I (((dcdD m.key bs : Nat) : Int)), U64 (dcdS m.key bs), U16 (dcdT m.key bs), U16 (dcdM m.key bs), .slice a31 n31 c31]) 100), (s, .cells (#[Ptr pp 0, I (((m.dir : Nat) : Int)), Ptr t 0, Ptr pc 0, Ptr pf 0, Ptr pe 0, U16 (m.rl), I (((m.rc : Nat) : Int)), U32 (m.re), U64 (m.fs), .bool (m.cz)]) E1)] w) ?_
      have hS := hS.drew
      refine dq 0 rfl (by kernel_rfl) (by kernel_rfl) (by kernel_rfl) rfl rfl (fun w hS => mv rfl rfl rfl ⟨rfl, rfl⟩) (hS.sublist (.cons _ (.cons _ (.cons _ (.cons _ (.cons _ (.cons_cons _ (.cons _ (.cons_cons _ (.cons _ (.cons _ (.cons _ (.cons _ (.cons _ (.cons _ (List.nil_sublist _)))))))))))))))) ?_
      refine dq 1 rfl (by kernel_rfl) (by kernel_rfl) (by kernel_rfl) rfl rfl (fun w hS => nilp rfl rfl rfl ⟨rfl, rfl⟩) (hS.sublist (.cons _ (.cons _ (.cons _ (.cons _ (.cons _ (.cons_cons _ (.cons _ (.cons_cons _ (.cons _ (.cons _ (.cons _ (.cons _ (.cons _ (.cons _ (List.nil_sublist _)))))))))))))))) ?_
      refine dq 2 rfl (by kernel_rfl) (by kernel_rfl) (by kernel_rfl) rfl rfl (fun w hS => fan (4) (4) Tryz.underlying90 rfl sz83 (by decide) rfl rfl rfl rfl (by omega) ⟨rfl, rfl⟩) (hS.sublist (.cons _ (.cons _ (.cons _ (.cons _ (.cons _ (.cons_cons _ (.cons _ (.cons_cons _ (.cons _ (.cons _ (.cons _ (.cons _ (.cons _ (.cons _ (List.nil_sublist _)))))))))))))))) ?_
      refine dq 3 rfl (by kernel_rfl) (by kernel_rfl) (by kernel_rfl) rfl rfl (fun w hS => lo 1 sc83 hS rfl rfl rfl rfl rfl ⟨rfl, rfl⟩) (hS.sublist (.cons _ (.cons _ (.cons _ (.cons _ (.cons _ (.cons_cons _ (.cons _ (.cons_cons _ (.cons _ (.cons _ (.cons _ (.cons _ (.cons _ (.cons _ (List.nil_sublist _)))))))))))))))) ?_
      refine dq 4 rfl (by kernel_rfl) (by kernel_rfl) (by kernel_rfl) rfl rfl (fun w hS => fan (1) (1) Tryz.underlying100 rfl sz24 (by decide) rfl rfl rfl rfl (by omega) ⟨rfl, rfl⟩) (hS.sublist (.cons _ (.cons _ (.cons _ (.cons _ (.cons _ (.cons_cons _ (.cons _ (.cons_cons _ (.cons _ (.cons _ (.cons _ (.cons _ (.cons _ (.cons _ (List.nil_sublist _)))))))))))))))) ?_
      refine dq 5 rfl (by kernel_rfl) (by kernel_rfl) (by kernel_rfl) rfl rfl (fun w hS => lo 0 sc24 hS rfl rfl rfl rfl rfl ⟨rfl, rfl⟩) (hS.sublist (.cons _ (.cons _ (.cons _ (.cons _ (.cons _ (.cons_cons _ (.cons _ (.cons_cons _ (.cons _ (.cons _ (.cons _ (.cons _ (.cons _ (.cons _ (List.nil_sublist _)))))))))))))))) ?_
      refine dl 6 rfl (by kernel_rfl) ?_
      refine cm cf54 rfl rfl rfl rfl rfl (sp_filter_Filter_Accept (pf) (_) (m.ac) (m.rf) (m.ls) ((dcdS m.key bs)) _ (hS.get 8 rfl) (by omega) (by assumption)) ?_
      rintro _ _ w ⟨rfl, rfl⟩ hS1
      have hS : St w0 G ([(b53, .cells (#[.func (.func 51) #[] #[Ptr b9 0], .func (.func 78) #[] #[Ptr p43 0, Ptr q43 0], .func (.func 78) #[] #[Ptr p52 0, Ptr q52 0]]) 95), (q52, .cells (#[I (9)]) 33), (p52, .cells (#[.bool ((!(frsh m.ls (dcdS m.key bs))))]) 4), (q43, .cells (#[I (8)]) 33), (p43, .cells (#[.bool (((((dcdD m.key bs : Nat) : Int) : Int) == ((m.dir : Nat) : Int)))]) 4), (b10, .cells (#[I (((dcdD m.key bs : Nat) : Int)), U64 (dcdS m.key bs), U16 (dcdT m.key bs), U16 (dcdM m.key bs), .slice a31 n31 c31]) 100), (b9, .cells (#[(errV 33 (dcdE m.key bs))]) 27), (s, .cells (#[Ptr pp 0, I (((m.dir : Nat) : Int)), Ptr t 0, Ptr pc 0, Ptr pf 0, Ptr pe 0, U16 (m.rl), I (((m.rc : Nat) : Int)), U32 (m.re), U64 (m.fs), .bool (m.cz)]) E1), (pf, .cells (#[I (((m.ac + 1 : Nat) : Int)), I ((m.rf : Int)), U64 ((dcdS m.key bs) + 1)]) E2), (pc, .cells (#[U64 (m.nx), U64 (m.gv), .bool (false)]) E3), (t, .cells (tableC c m.key) E4), (c, .cells (cipherC m.key) E5), (pp, .cells (#[Str m.ad, .bool (m.fx), I (((m.mv : Nat) : Int)), .map (some pm)]) E6), (pm, mOb encS vI mm)] ++ (Z ++ (X31 ++ []))) w := St.calls (L1 := [(pf, .cells (#[I (((m.ac : Nat) : Int)), I (((m.rf : Nat) : Int)), U64 (m.ls)]) E2)]) (N := [(pf, .cells (#[I (((m.ac + 1 : Nat) : Int)), I ((m.rf : Int)), U64 ((dcdS m.key bs) + 1)]) E2)]) (L2 := []) hS [8] rfl rfl hS1
      refine ⟨fun _ => (hS.sublist (.cons _ (.cons _ (.cons _ (.cons _ (.cons _ (.cons_cons _ (.cons _ (.cons_cons _ (.cons _ (.cons _ (.cons _ (.cons _ (.cons _ (.cons _ (List.nil_sublist _)))))))))))))))), ?_⟩
      refine dl 7 rfl (by kernel_rfl) ?_
      refine asg rfl rfl rfl ?_
      refine ⟨fun h => (by cases h), ?_⟩
      refine de (by kernel_rfl) ?_
      refine wq_then ?_
      refine rg ?_
      refine mv rfl rfl rfl ?_
      refine neE (C := 33) (c := 0) Tryz.underlying27 rfl rfl rfl ?_
      refine wq_then ?_
      refine wc_if rfl (fun hc3 => ?_) (fun hc3 => ?_)
      · skip
        try simp only [SB] at hc3
        exact absurd rfl hc3
      · skip
        try simp only [SB] at hc3
        refine wc_skip ?_
        refine wq_then ?_
        refine rd mo 8 (fun w => St w0 G [(b10, .cells (#[I (((dcdD m.key bs : Nat) : Int)), U64 (dcdS m.key bs), U16 (dcdT m.key bs), U16 (dcdM m.key bs), .slice a31 n31 c31]) 100), (s, .cells (#[Ptr pp 0, I (((m.dir : Nat) : Int)), Ptr t 0, Ptr pc 0, Ptr pf 0, Ptr pe 0, U16 (m.rl), I (((m.rc : Nat) : Int)), U32 (m.re), U64 (m.fs), .bool (m.cz)]) E1)] w) ?_
        have hS := hS.drew
        refine dq 0 rfl (by kernel_rfl) (by kernel_rfl) (by kernel_rfl) rfl rfl (fun w hS => mv rfl rfl rfl ⟨rfl, rfl⟩) (hS.sublist (.cons _ (.cons _ (.cons _ (.cons _ (.cons _ (.cons_cons _ (.cons _ (.cons_cons _ (.cons _ (.cons _ (.cons _ (.cons _ (.cons _ (.cons _ (List.nil_sublist _)))))))))))))))) ?_
        refine dq 1 rfl (by kernel_rfl) (by kernel_rfl) (by kernel_rfl) rfl rfl (fun w hS => nilp rfl rfl rfl ⟨rfl, rfl⟩) (hS.sublist (.cons _ (.cons _ (.cons _ (.cons _ (.cons _ (.cons_cons _ (.cons _ (.cons_cons _ (.cons _ (.cons _ (.cons _ (.cons _ (.cons _ (.cons _ (List.nil_sublist _)))))))))))))))) ?_
        refine dq 2 rfl (by kernel_rfl) (by kernel_rfl) (by kernel_rfl) rfl rfl (fun w hS => fan (5) (5) Tryz.underlying90 rfl sz85 (by decide) rfl rfl rfl rfl (by omega) ⟨rfl, rfl⟩) (hS.sublist (.cons _ (.cons _ (.cons _ (.cons _ (.cons _ (.cons_cons _ (.cons _ (.cons_cons _ (.cons _ (.cons _ (.cons _ (.cons _ (.cons _ (.cons _ (List.nil_sublist _)))))))))))))))) ?_
        refine dq 3 rfl (by kernel_rfl) (by kernel_rfl) (by kernel_rfl) rfl rfl (fun w hS => lo 1 sc85 hS rfl rfl rfl rfl rfl ⟨rfl, rfl⟩) (hS.sublist (.cons _ (.cons _ (.cons _ (.cons _ (.cons _ (.cons_cons _ (.cons _ (.cons_cons _ (.cons _ (.cons _ (.cons _ (.cons _ (.cons _ (.cons _ (List.nil_sublist _)))))))))))))))) ?_
        refine dq 4 rfl (by kernel_rfl) (by kernel_rfl) (by kernel_rfl) rfl rfl (fun w hS => fan (2) (2) Tryz.underlying100 rfl sz36 (by decide) rfl rfl rfl rfl (by omega) ⟨rfl, rfl⟩) (hS.sublist (.cons _ (.cons _ (.cons _ (.cons _ (.cons _ (.cons_cons _ (.cons _ (.cons_cons _ (.cons _ (.cons _ (.cons _ (.cons _ (.cons _ (.cons _ (List.nil_sublist _)))))))))))))))) ?_
        refine dq 5 rfl (by kernel_rfl) (by kernel_rfl) (by kernel_rfl) rfl rfl (fun w hS => lo 0 sc36 hS rfl rfl rfl rfl rfl ⟨rfl, rfl⟩) (hS.sublist (.cons _ (.cons _ (.cons _ (.cons _ (.cons _ (.cons_cons _ (.cons _ (.cons_cons _ (.cons _ (.cons _ (.cons _ (.cons _ (.cons _ (.cons _ (List.nil_sublist _)))))))))))))))) ?_
        refine dq 6 rfl (by kernel_rfl) (by kernel_rfl) (by kernel_rfl) rfl rfl (fun w hS => mv rfl rfl rfl ⟨rfl, rfl⟩) (hS.sublist (.cons _ (.cons _ (.cons _ (.cons _ (.cons _ (.cons_cons _ (.cons _ (.cons_cons _ (.cons _ (.cons _ (.cons _ (.cons _ (.cons _ (.cons _ (List.nil_sublist _)))))))))))))))) ?_
        refine dl 7 rfl (by kernel_rfl) ?_
        refine cm cf55 rfl rfl rfl rfl rfl (sp_EchoTake pe m.kp (dcdT m.key bs) x Z _ hE (St.memT (A := [(b53, .cells (#[.func (.func 51) #[] #[Ptr b9 0], .func (.func 78) #[] #[Ptr p43 0, Ptr q43 0], .func (.func 78) #[] #[Ptr p52 0, Ptr q52 0]]) 95), (q52, .cells (#[I (9)]) 33), (p52, .cells (#[.bool ((!(frsh m.ls (dcdS m.key bs))))]) 4), (q43, .cells (#[I (8)]) 33), (p43, .cells (#[.bool (((((dcdD m.key bs : Nat) : Int) : Int) == ((m.dir : Nat) : Int)))]) 4), (b10, .cells (#[I (((dcdD m.key bs : Nat) : Int)), U64 (dcdS m.key bs), U16 (dcdT m.key bs), U16 (dcdM m.key bs), .slice a31 n31 c31]) 100), (b9, .cells (#[(errV 33 (dcdE m.key bs))]) 27), (s, .cells (#[Ptr pp 0, I (((m.dir : Nat) : Int)), Ptr t 0, Ptr pc 0, Ptr pf 0, Ptr pe 0, U16 (m.rl), I (((m.rc : Nat) : Int)), U32 (m.re), U64 (m.fs), .bool (m.cz)]) E1), (pf, .cells (#[I (((m.ac + 1 : Nat) : Int)), I ((m.rf : Int)), U64 ((dcdS m.key bs) + 1)]) E2), (pc, .cells (#[U64 (m.nx), U64 (m.gv), .bool (false)]) E3), (t, .cells (tableC c m.key) E4), (c, .cells (cipherC m.key) E5), (pp, .cells (#[Str m.ad, .bool (m.fx), I (((m.mv : Nat) : Int)), .map (some pm)]) E6), (pm, mOb encS vI mm)]) (X := Z) (R := (X31 ++ [])) hS) (St.nodupT (A := [(b53, .cells (#[.func (.func 51) #[] #[Ptr b9 0], .func (.func 78) #[] #[Ptr p43 0, Ptr q43 0], .func (.func 78) #[] #[Ptr p52 0, Ptr q52 0]]) 95), (q52, .cells (#[I (9)]) 33), (p52, .cells (#[.bool ((!(frsh m.ls (dcdS m.key bs))))]) 4), (q43, .cells (#[I (8)]) 33), (p43, .cells (#[.bool (((((dcdD m.key bs : Nat) : Int) : Int) == ((m.dir : Nat) : Int)))]) 4), (b10, .cells (#[I (((dcdD m.key bs : Nat) : Int)), U64 (dcdS m.key bs), U16 (dcdT m.key bs), U16 (dcdM m.key bs), .slice a31 n31 c31]) 100), (b9, .cells (#[(errV 33 (dcdE m.key bs))]) 27), (s, .cells (#[Ptr pp 0, I (((m.dir : Nat) : Int)), Ptr t 0, Ptr pc 0, Ptr pf 0, Ptr pe 0, U16 (m.rl), I (((m.rc : Nat) : Int)), U32 (m.re), U64 (m.fs), .bool (m.cz)]) E1), (pf, .cells (#[I (((m.ac + 1 : Nat) : Int)), I ((m.rf : Int)), U64 ((dcdS m.key bs) + 1)]) E2), (pc, .cells (#[U64 (m.nx), U64 (m.gv), .bool (false)]) E3), (t, .cells (tableC c m.key) E4), (c, .cells (cipherC m.key) E5), (pp, .cells (#[Str m.ad, .bool (m.fx), I (((m.mv : Nat) : Int)), .map (some pm)]) E6), (pm, mOb encS vI mm)]) (X := Z) (R := (X31 ++ [])) hS)) ?_
        rintro _ Y80 w hE1 hS1
        have hS : St w0 G ([(b53, .cells (#[.func (.func 51) #[] #[Ptr b9 0], .func (.func 78) #[] #[Ptr p43 0, Ptr q43 0], .func (.func 78) #[] #[Ptr p52 0, Ptr q52 0]]) 95), (q52, .cells (#[I (9)]) 33), (p52, .cells (#[.bool ((!(frsh m.ls (dcdS m.key bs))))]) 4), (q43, .cells (#[I (8)]) 33), (p43, .cells (#[.bool (((((dcdD m.key bs : Nat) : Int) : Int) == ((m.dir : Nat) : Int)))]) 4), (b10, .cells (#[I (((dcdD m.key bs : Nat) : Int)), U64 (dcdS m.key bs), U16 (dcdT m.key bs), U16 (dcdM m.key bs), .slice a31 n31 c31]) 100), (b9, .cells (#[(errV 33 (dcdE m.key bs))]) 27), (s, .cells (#[Ptr pp 0, I (((m.dir : Nat) : Int)), Ptr t 0, Ptr pc 0, Ptr pf 0, Ptr pe 0, U16 (m.rl), I (((m.rc : Nat) : Int)), U32 (m.re), U64 (m.fs), .bool (m.cz)]) E1), (pf, .cells (#[I (((m.ac + 1 : Nat) : Int)), I ((m.rf : Int)), U64 ((dcdS m.key bs) + 1)]) E2), (pc, .cells (#[U64 (m.nx), U64 (m.gv), .bool (false)]) E3), (t, .cells (tableC c m.key) E4), (c, .cells (cipherC m.key) E5), (pp, .cells (#[Str m.ad, .bool (m.fx), I (((m.mv : Nat) : Int)), .map (some pm)]) E6), (pm, mOb encS vI mm)] ++ (Y80 ++ (X31 ++ []))) w := St.callX (A := [(b53, .cells (#[.func (.func 51) #[] #[Ptr b9 0], .func (.func 78) #[] #[Ptr p43 0, Ptr q43 0], .func (.func 78) #[] #[Ptr p52 0, Ptr q52 0]]) 95), (q52, .cells (#[I (9)]) 33), (p52, .cells (#[.bool ((!(frsh m.ls (dcdS m.key bs))))]) 4), (q43, .cells (#[I (8)]) 33), (p43, .cells (#[.bool (((((dcdD m.key bs : Nat) : Int) : Int) == ((m.dir : Nat) : Int)))]) 4), (b10, .cells (#[I (((dcdD m.key bs : Nat) : Int)), U64 (dcdS m.key bs), U16 (dcdT m.key bs), U16 (dcdM m.key bs), .slice a31 n31 c31]) 100), (b9, .cells (#[(errV 33 (dcdE m.key bs))]) 27), (s, .cells (#[Ptr pp 0, I (((m.dir : Nat) : Int)), Ptr t 0, Ptr pc 0, Ptr pf 0, Ptr pe 0, U16 (m.rl), I (((m.rc : Nat) : Int)), U32 (m.re), U64 (m.fs), .bool (m.cz)]) E1), (pf, .cells (#[I (((m.ac + 1 : Nat) : Int)), I ((m.rf : Int)), U64 ((dcdS m.key bs) + 1)]) E2), (pc, .cells (#[U64 (m.nx), U64 (m.gv), .bool (false)]) E3), (t, .cells (tableC c m.key) E4), (c, .cells (cipherC m.key) E5), (pp, .cells (#[Str m.ad, .bool (m.fx), I (((m.mv : Nat) : Int)), .map (some pm)]) E6), (pm, mOb encS vI mm)]) (X := Z) (R := (X31 ++ [])) hS hS1
        refine ⟨fun _ => (hS.sublist (.cons _ (.cons _ (.cons _ (.cons _ (.cons _ (.cons_cons _ (.cons _ (.cons_cons _ (.cons _ (.cons _ (.cons _ (.cons _ (.cons _ (.cons _ (List.nil_sublist _)))))))))))))))), ?_⟩
        refine de (by kernel_rfl) ?_
        refine wq_then ?_
        refine wc_seq ?_
        refine rd mo 9 (fun w => St w0 G [(b10, .cells (#[I (((dcdD m.key bs : Nat) : Int)), U64 (dcdS m.key bs), U16 (dcdT m.key bs), U16 (dcdM m.key bs), .slice a31 n31 c31]) 100)] w) ?_
        have hS := hS.drew
        refine dq 0 rfl (by kernel_rfl) (by kernel_rfl) (by kernel_rfl) rfl rfl (fun w hS => mv rfl rfl rfl ⟨rfl, rfl⟩) (hS.sublist (.cons _ (.cons _ (.cons _ (.cons _ (.cons _ (.cons_cons _ (.cons _ (.cons _ (.cons _ (.cons _ (.cons _ (.cons _ (.cons _ (.cons _ (List.nil_sublist _)))))))))))))))) ?_
        refine dq 2 rfl (by kernel_rfl) (by kernel_rfl) (by kernel_rfl) rfl rfl (fun w hS => fan (3) (3) Tryz.underlying100 rfl sz36 (by decide) rfl rfl rfl rfl (by omega) ⟨rfl, rfl⟩) (hS.sublist (.cons _ (.cons _ (.cons _ (.cons _ (.cons _ (.cons_cons _ (.cons _ (.cons _ (.cons _ (.cons _ (.cons _ (.cons _ (.cons _ (.cons _ (List.nil_sublist _)))))))))))))))) ?_
        refine dq 3 rfl (by kernel_rfl) (by kernel_rfl) (by kernel_rfl) rfl rfl (fun w hS => lo 0 sc36 hS rfl rfl rfl rfl rfl ⟨rfl, rfl⟩) (hS.sublist (.cons _ (.cons _ (.cons _ (.cons _ (.cons _ (.cons_cons _ (.cons _ (.cons _ (.cons _ (.cons _ (.cons _ (.cons _ (.cons _ (.cons _ (List.nil_sublist _)))))))))))))))) ?_
        refine dl 1 rfl (by kernel_rfl) ?_
        refine cv cf37 hS rfl rfl rfl rfl rfl (sp_stamp_Of (x) _) ?_
        intro w hS
        refine ⟨fun _ => (hS.sublist (.cons _ (.cons _ (.cons _ (.cons _ (.cons _ (.cons_cons _ (.cons _ (.cons _ (.cons _ (.cons _ (.cons _ (.cons _ (.cons _ (.cons _ (List.nil_sublist _)))))))))))))))), ?_⟩
        refine dl 4 rfl (by kernel_rfl) ?_
        refine cv cf56 hS rfl rfl rfl rfl rfl (sp_stamp_Sample ((ofT x)) ((dcdM m.key bs)) _) ?_
        intro w hS
        refine ⟨fun _ => (hS.sublist (.cons _ (.cons _ (.cons _ (.cons _ (.cons _ (.cons_cons _ (.cons _ (.cons _ (.cons _ (.cons _ (.cons _ (.cons _ (.cons _ (.cons _ (List.nil_sublist _)))))))))))))))), ?_⟩
        refine dq 5 rfl (by kernel_rfl) (by kernel_rfl) (by kernel_rfl) rfl rfl (fun w hS => mv rfl rfl rfl ⟨rfl, rfl⟩) (hS.sublist (.cons _ (.cons _ (.cons _ (.cons _ (.cons _ (.cons_cons _ (.cons _ (.cons _ (.cons _ (.cons _ (.cons _ (.cons _ (.cons _ (.cons _ (List.nil_sublist _)))))))))))))))) ?_
        refine dq 6 rfl (by kernel_rfl) (by kernel_rfl) (by kernel_rfl) rfl rfl (fun w hS => ext rfl rfl rfl rfl ⟨rfl, rfl⟩) (hS.sublist (.cons _ (.cons _ (.cons _ (.cons _ (.cons _ (.cons_cons _ (.cons _ (.cons _ (.cons _ (.cons _ (.cons _ (.cons _ (.cons _ (.cons _ (List.nil_sublist _)))))))))))))))) ?_
        refine dq 7 rfl (by kernel_rfl) (by kernel_rfl) (by kernel_rfl) rfl rfl (fun w hS => ext rfl rfl rfl rfl ⟨rfl, rfl⟩) (hS.sublist (.cons _ (.cons _ (.cons _ (.cons _ (.cons _ (.cons_cons _ (.cons _ (.cons _ (.cons _ (.cons _ (.cons _ (.cons _ (.cons _ (.cons _ (List.nil_sublist _)))))))))))))))) ?_
        refine dq 8 rfl (by kernel_rfl) (by kernel_rfl) (by kernel_rfl) rfl rfl (fun w hS => asg rfl rfl rfl ⟨rfl, rfl⟩) (hS.sublist (.cons _ (.cons _ (.cons _ (.cons _ (.cons _ (.cons_cons _ (.cons _ (.cons _ (.cons _ (.cons _ (.cons _ (.cons _ (.cons _ (.cons _ (List.nil_sublist _)))))))))))))))) ?_
        refine dl 9 rfl (by kernel_rfl) ?_
        refine asg rfl rfl rfl ?_
        refine ⟨fun h => (by cases h), ?_⟩
        refine de (by kernel_rfl) ?_
        refine wq_then ?_
        refine rg ?_
        refine mv rfl rfl rfl ?_
        refine wq_then ?_
        refine wc_if rfl (fun hc4 => ?_) (fun hc4 => ?_)
        · skip
          try simp only [SB] at hc4
          have hM : ¬ dcdM m.key bs = 65535 := by simpa using hc4
          refine wc_region ?_
          refine mv rfl rfl rfl ?_
          refine nilp rfl rfl rfl ?_
          refine fan (6) (6) Tryz.underlying90 rfl sz88 (by decide) rfl rfl rfl rfl (by omega) ?_
          refine mv rfl rfl rfl ?_
          refine cm cf57 rfl rfl rfl rfl rfl (sp_echo_Rtt_Add (s) (_) (_) (_) (_) (_) (_) (_) (_) (_) (_) (_) (_) ((smpV (ofT x) (dcdM m.key bs))) _ (hS.get 7 rfl) (by omega)) ?_
          rintro _ _ w rfl hS1
          have hS : St w0 G ([(b53, .cells (#[.func (.func 51) #[] #[Ptr b9 0], .func (.func 78) #[] #[Ptr p43 0, Ptr q43 0], .func (.func 78) #[] #[Ptr p52 0, Ptr q52 0]]) 95), (q52, .cells (#[I (9)]) 33), (p52, .cells (#[.bool ((!(frsh m.ls (dcdS m.key bs))))]) 4), (q43, .cells (#[I (8)]) 33), (p43, .cells (#[.bool (((((dcdD m.key bs : Nat) : Int) : Int) == ((m.dir : Nat) : Int)))]) 4), (b10, .cells (#[I (((dcdD m.key bs : Nat) : Int)), U64 (dcdS m.key bs), U16 (dcdT m.key bs), U16 (dcdM m.key bs), .slice a31 n31 c31]) 100), (b9, .cells (#[(errV 33 (dcdE m.key bs))]) 27), (s, .cells (#[Ptr pp 0, I (((m.dir : Nat) : Int)), Ptr t 0, Ptr pc 0, Ptr pf 0, Ptr pe 0, U16 ((smpV (ofT x) (dcdM m.key bs))), I (((m.rc + 1 : Nat) : Int)), U32 (estN m.rc m.re (smpV (ofT x) (dcdM m.key bs))), U64 (m.fs), .bool (m.cz)]) E1), (pf, .cells (#[I (((m.ac + 1 : Nat) : Int)), I ((m.rf : Int)), U64 ((dcdS m.key bs) + 1)]) E2), (pc, .cells (#[U64 (m.nx), U64 (m.gv), .bool (false)]) E3), (t, .cells (tableC c m.key) E4), (c, .cells (cipherC m.key) E5), (pp, .cells (#[Str m.ad, .bool (m.fx), I (((m.mv : Nat) : Int)), .map (some pm)]) E6), (pm, mOb encS vI mm)] ++ (Y80 ++ (X31 ++ []))) w := St.calls (L1 := [(s, .cells (#[Ptr pp 0, I (((m.dir : Nat) : Int)), Ptr t 0, Ptr pc 0, Ptr pf 0, Ptr pe 0, U16 (m.rl), I (((m.rc : Nat) : Int)), U32 (m.re), U64 (m.fs), .bool (m.cz)]) E1)]) (N := [(s, .cells (#[Ptr pp 0, I (((m.dir : Nat) : Int)), Ptr t 0, Ptr pc 0, Ptr pf 0, Ptr pe 0, U16 ((smpV (ofT x) (dcdM m.key bs))), I (((m.rc + 1 : Nat) : Int)), U32 (estN m.rc m.re (smpV (ofT x) (dcdM m.key bs))), U64 (m.fs), .bool (m.cz)]) E1)]) (L2 := []) hS [7] rfl rfl hS1
          refine wq_then ?_
          refine rg ?_
          refine mv rfl rfl rfl ?_
          refine nilp rfl rfl rfl ?_
          refine fan (0) (0) Tryz.underlying90 rfl sz76 (by decide) rfl rfl rfl rfl (by omega) ?_
          refine lo 7 sc76 hS rfl rfl rfl rfl rfl ?_
          refine mv rfl rfl rfl ?_
          refine cm cf58 rfl rfl rfl rfl rfl (sp_peer_Peer_Move (pp) (_) (pm) (m.ad) (m.fx) (m.mv) (_) (fr) _ (hS.get 12 rfl) (hS.get 13 rfl) (nd_of hS [12, 13] rfl (by decide)) (by omega)) ?_
          rintro _ _ w ⟨b100, m100, rfl, rfl⟩ hS1
          have hS : St w0 G ([(b53, .cells (#[.func (.func 51) #[] #[Ptr b9 0], .func (.func 78) #[] #[Ptr p43 0, Ptr q43 0], .func (.func 78) #[] #[Ptr p52 0, Ptr q52 0]]) 95), (q52, .cells (#[I (9)]) 33), (p52, .cells (#[.bool ((!(frsh m.ls (dcdS m.key bs))))]) 4), (q43, .cells (#[I (8)]) 33), (p43, .cells (#[.bool (((((dcdD m.key bs : Nat) : Int) : Int) == ((m.dir : Nat) : Int)))]) 4), (b10, .cells (#[I (((dcdD m.key bs : Nat) : Int)), U64 (dcdS m.key bs), U16 (dcdT m.key bs), U16 (dcdM m.key bs), .slice a31 n31 c31]) 100), (b9, .cells (#[(errV 33 (dcdE m.key bs))]) 27), (s, .cells (#[Ptr pp 0, I (((m.dir : Nat) : Int)), Ptr t 0, Ptr pc 0, Ptr pf 0, Ptr pe 0, U16 ((smpV (ofT x) (dcdM m.key bs))), I (((m.rc + 1 : Nat) : Int)), U32 (estN m.rc m.re (smpV (ofT x) (dcdM m.key bs))), U64 (m.fs), .bool (m.cz)]) E1), (pf, .cells (#[I (((m.ac + 1 : Nat) : Int)), I ((m.rf : Int)), U64 ((dcdS m.key bs) + 1)]) E2), (pc, .cells (#[U64 (m.nx), U64 (m.gv), .bool (false)]) E3), (t, .cells (tableC c m.key) E4), (c, .cells (cipherC m.key) E5), (pp, .cells (#[Str (mvA m.fx m.ad fr), .bool (m.fx), I (((mvN m.fx m.ad fr m.mv : Nat) : Int)), .map (some pm)]) E6), (pm, mOb encS vI m100)] ++ (Y80 ++ (X31 ++ []))) w := St.calls (L1 := [(pp, .cells (#[Str m.ad, .bool (m.fx), I (((m.mv : Nat) : Int)), .map (some pm)]) E6), (pm, mOb encS vI mm)]) (N := [(pp, .cells (#[Str (mvA m.fx m.ad fr), .bool (m.fx), I (((mvN m.fx m.ad fr m.mv : Nat) : Int)), .map (some pm)]) E6), (pm, mOb encS vI m100)]) (L2 := []) hS [12, 13] rfl rfl hS1
          refine wq_then ?_
          refine rg ?_
          refine fan (4) (4) Tryz.underlying100 rfl sz30 (by decide) rfl rfl rfl rfl (by omega) ?_
          refine lo 5 sc30 hS rfl rfl rfl rfl rfl ?_
          refine asg rfl rfl rfl ?_
          refine st 6 sz27 hS rfl rfl rfl rfl rfl rfl Nat.zero_lt_one rfl ?_
          intro w hS
          refine wq_then ?_
          refine wc_ret ?_
          refine fin2 (v := .slice a31 n31 c31) (u := .nilIface) rfl rfl ⟨_, rfl, lv_c sc27 (hS.get 6 rfl) rfl⟩ ?_
          have eM : rcvM m bs fr x = { m with ac := m.ac + 1, ls := dcdS m.key bs + 1, kp := some (dcdT m.key bs, x), rl := (smpV (ofT x) (dcdM m.key bs)), rc := (m.rc + 1), re := (estN m.rc m.re (smpV (ofT x) (dcdM m.key bs))), ad := mvA m.fx m.ad fr, mv := mvN m.fx m.ad fr m.mv } := by simp [rcvM, hcz, hE2, smpM, hM]
          have eP : rcvP m bs = dcdP m.key bs := if_pos hE2
          exact ⟨_, _, rfl, ⟨_, _, _, [(s, .cells (#[Ptr pp 0, I (((m.dir : Nat) : Int)), Ptr t 0, Ptr pc 0, Ptr pf 0, Ptr pe 0, U16 ((smpV (ofT x) (dcdM m.key bs))), I (((m.rc + 1 : Nat) : Int)), U32 (estN m.rc m.re (smpV (ofT x) (dcdM m.key bs))), U64 (m.fs), .bool (m.cz)]) E1), (pf, .cells (#[I (((m.ac + 1 : Nat) : Int)), I ((m.rf : Int)), U64 ((dcdS m.key bs) + 1)]) E2), (pc, .cells (#[U64 (m.nx), U64 (m.gv), .bool (false)]) E3), (t, .cells (tableC c m.key) E4), (c, .cells (cipherC m.key) E5), (pp, .cells (#[Str (mvA m.fx m.ad fr), .bool (m.fx), I (((mvN m.fx m.ad fr m.mv : Nat) : Int)), .map (some pm)]) E6), (pm, mOb encS vI m100)] ++ Y80, X31, by rw [hE2]; rfl, by rw [eM]; exact ⟨pp, pm, pc, pf, pe, t, c, _, _, _, _, _, _, _, _, hd1, hE1, rfl⟩, by rw [eP]; exact ⟨hl31, hm31, hc31, hR31⟩, rfl⟩, St.pk (U := [(b53, .cells (#[.func (.func 51) #[] #[Ptr b9 0], .func (.func 78) #[] #[Ptr p43 0, Ptr q43 0], .func (.func 78) #[] #[Ptr p52 0, Ptr q52 0]]) 95), (q52, .cells (#[I (9)]) 33), (p52, .cells (#[.bool ((!(frsh m.ls (dcdS m.key bs))))]) 4), (q43, .cells (#[I (8)]) 33), (p43, .cells (#[.bool (((((dcdD m.key bs : Nat) : Int) : Int) == ((m.dir : Nat) : Int)))]) 4), (b10, .cells (#[I (((dcdD m.key bs : Nat) : Int)), U64 (dcdS m.key bs), U16 (dcdT m.key bs), U16 (dcdM m.key bs), .slice a31 n31 c31]) 100), (b9, .cells (#[.nilIface]) 27)]) (B := [(s, .cells (#[Ptr pp 0, I (((m.dir : Nat) : Int)), Ptr t 0, Ptr pc 0, Ptr pf 0, Ptr pe 0, U16 ((smpV (ofT x) (dcdM m.key bs))), I (((m.rc + 1 : Nat) : Int)), U32 (estN m.rc m.re (smpV (ofT x) (dcdM m.key bs))), U64 (m.fs), .bool (m.cz)]) E1), (pf, .cells (#[I (((m.ac + 1 : Nat) : Int)), I ((m.rf : Int)), U64 ((dcdS m.key bs) + 1)]) E2), (pc, .cells (#[U64 (m.nx), U64 (m.gv), .bool (false)]) E3), (t, .cells (tableC c m.key) E4), (c, .cells (cipherC m.key) E5), (pp, .cells (#[Str (mvA m.fx m.ad fr), .bool (m.fx), I (((mvN m.fx m.ad fr m.mv : Nat) : Int)), .map (some pm)]) E6), (pm, mOb encS vI m100)]) (Y := X31) (Z := Y80) (R := []) (St.swapT (A := [(b53, .cells (#[.func (.func 51) #[] #[Ptr b9 0], .func (.func 78) #[] #[Ptr p43 0, Ptr q43 0], .func (.func 78) #[] #[Ptr p52 0, Ptr q52 0]]) 95), (q52, .cells (#[I (9)]) 33), (p52, .cells (#[.bool ((!(frsh m.ls (dcdS m.key bs))))]) 4), (q43, .cells (#[I (8)]) 33), (p43, .cells (#[.bool (((((dcdD m.key bs : Nat) : Int) : Int) == ((m.dir : Nat) : Int)))]) 4), (b10, .cells (#[I (((dcdD m.key bs : Nat) : Int)), U64 (dcdS m.key bs), U16 (dcdT m.key bs), U16 (dcdM m.key bs), .slice a31 n31 c31]) 100), (b9, .cells (#[.nilIface]) 27), (s, .cells (#[Ptr pp 0, I (((m.dir : Nat) : Int)), Ptr t 0, Ptr pc 0, Ptr pf 0, Ptr pe 0, U16 ((smpV (ofT x) (dcdM m.key bs))), I (((m.rc + 1 : Nat) : Int)), U32 (estN m.rc m.re (smpV (ofT x) (dcdM m.key bs))), U64 (m.fs), .bool (m.cz)]) E1), (pf, .cells (#[I (((m.ac + 1 : Nat) : Int)), I ((m.rf : Int)), U64 ((dcdS m.key bs) + 1)]) E2), (pc, .cells (#[U64 (m.nx), U64 (m.gv), .bool (false)]) E3), (t, .cells (tableC c m.key) E4), (c, .cells (cipherC m.key) E5), (pp, .cells (#[Str (mvA m.fx m.ad fr), .bool (m.fx), I (((mvN m.fx m.ad fr m.mv : Nat) : Int)), .map (some pm)]) E6), (pm, mOb encS vI m100)]) (X := Y80) (Z := X31) (R := []) hS)⟩
        · skip
          try simp only [SB] at hc4
          have hM : dcdM m.key bs = 65535 := by simpa using hc4
          refine wc_skip ?_
          refine wq_then ?_
          refine rg ?_
          refine mv rfl rfl rfl ?_
          refine nilp rfl rfl rfl ?_
          refine fan (0) (0) Tryz.underlying90 rfl sz76 (by decide) rfl rfl rfl rfl (by omega) ?_
          refine lo 7 sc76 hS rfl rfl rfl rfl rfl ?_
          refine mv rfl rfl rfl ?_
          refine cm cf58 rfl rfl rfl rfl rfl (sp_peer_Peer_Move (pp) (_) (pm) (m.ad) (m.fx) (m.mv) (_) (fr) _ (hS.get 12 rfl) (hS.get 13 rfl) (nd_of hS [12, 13] rfl (by decide)) (by omega)) ?_
          rintro _ _ w ⟨b100, m100, rfl, rfl⟩ hS1
          have hS : St w0 G ([(b53, .cells (#[.func (.func 51) #[] #[Ptr b9 0], .func (.func 78) #[] #[Ptr p43 0, Ptr q43 0], .func (.func 78) #[] #[Ptr p52 0, Ptr q52 0]]) 95), (q52, .cells (#[I (9)]) 33), (p52, .cells (#[.bool ((!(frsh m.ls (dcdS m.key bs))))]) 4), (q43, .cells (#[I (8)]) 33), (p43, .cells (#[.bool (((((dcdD m.key bs : Nat) : Int) : Int) == ((m.dir : Nat) : Int)))]) 4), (b10, .cells (#[I (((dcdD m.key bs : Nat) : Int)), U64 (dcdS m.key bs), U16 (dcdT m.key bs), U16 (dcdM m.key bs), .slice a31 n31 c31]) 100), (b9, .cells (#[(errV 33 (dcdE m.key bs))]) 27), (s, .cells (#[Ptr pp 0, I (((m.dir : Nat) : Int)), Ptr t 0, Ptr pc 0, Ptr pf 0, Ptr pe 0, U16 (m.rl), I (((m.rc : Nat) : Int)), U32 (m.re), U64 (m.fs), .bool (m.cz)]) E1), (pf, .cells (#[I (((m.ac + 1 : Nat) : Int)), I ((m.rf : Int)), U64 ((dcdS m.key bs) + 1)]) E2), (pc, .cells (#[U64 (m.nx), U64 (m.gv), .bool (false)]) E3), (t, .cells (tableC c m.key) E4), (c, .cells (cipherC m.key) E5), (pp, .cells (#[Str (mvA m.fx m.ad fr), .bool (m.fx), I (((mvN m.fx m.ad fr m.mv : Nat) : Int)), .map (some pm)]) E6), (pm, mOb encS vI m100)] ++ (Y80 ++ (X31 ++ []))) w := St.calls (L1 := [(pp, .cells (#[Str m.ad, .bool (m.fx), I (((m.mv : Nat) : Int)), .map (some pm)]) E6), (pm, mOb encS vI mm)]) (N := [(pp, .cells (#[Str (mvA m.fx m.ad fr), .bool (m.fx), I (((mvN m.fx m.ad fr m.mv : Nat) : Int)), .map (some pm)]) E6), (pm, mOb encS vI m100)]) (L2 := []) hS [12, 13] rfl rfl hS1
          refine wq_then ?_
          refine rg ?_
          refine fan (4) (4) Tryz.underlying100 rfl sz30 (by decide) rfl rfl rfl rfl (by omega) ?_
          refine lo 5 sc30 hS rfl rfl rfl rfl rfl ?_
          refine asg rfl rfl rfl ?_
          refine st 6 sz27 hS rfl rfl rfl rfl rfl rfl Nat.zero_lt_one rfl ?_
          intro w hS
          refine wq_then ?_
          refine wc_ret ?_
          refine fin2 (v := .slice a31 n31 c31) (u := .nilIface) rfl rfl ⟨_, rfl, lv_c sc27 (hS.get 6 rfl) rfl⟩ ?_
          have eM : rcvM m bs fr x = { m with ac := m.ac + 1, ls := dcdS m.key bs + 1, kp := some (dcdT m.key bs, x), rl := m.rl, rc := m.rc, re := m.re, ad := mvA m.fx m.ad fr, mv := mvN m.fx m.ad fr m.mv } := by simp [rcvM, hcz, hE2, smpM, hM]
          have eP : rcvP m bs = dcdP m.key bs := if_pos hE2
          exact ⟨_, _, rfl, ⟨_, _, _, [(s, .cells (#[Ptr pp 0, I (((m.dir : Nat) : Int)), Ptr t 0, Ptr pc 0, Ptr pf 0, Ptr pe 0, U16 (m.rl), I (((m.rc : Nat) : Int)), U32 (m.re), U64 (m.fs), .bool (m.cz)]) E1), (pf, .cells (#[I (((m.ac + 1 : Nat) : Int)), I ((m.rf : Int)), U64 ((dcdS m.key bs) + 1)]) E2), (pc, .cells (#[U64 (m.nx), U64 (m.gv), .bool (false)]) E3), (t, .cells (tableC c m.key) E4), (c, .cells (cipherC m.key) E5), (pp, .cells (#[Str (mvA m.fx m.ad fr), .bool (m.fx), I (((mvN m.fx m.ad fr m.mv : Nat) : Int)), .map (some pm)]) E6), (pm, mOb encS vI m100)] ++ Y80, X31, by rw [hE2]; rfl, by rw [eM]; exact ⟨pp, pm, pc, pf, pe, t, c, _, _, _, _, _, _, _, _, hd1, hE1, rfl⟩, by rw [eP]; exact ⟨hl31, hm31, hc31, hR31⟩, rfl⟩, St.pk (U := [(b53, .cells (#[.func (.func 51) #[] #[Ptr b9 0], .func (.func 78) #[] #[Ptr p43 0, Ptr q43 0], .func (.func 78) #[] #[Ptr p52 0, Ptr q52 0]]) 95), (q52, .cells (#[I (9)]) 33), (p52, .cells (#[.bool ((!(frsh m.ls (dcdS m.key bs))))]) 4), (q43, .cells (#[I (8)]) 33), (p43, .cells (#[.bool (((((dcdD m.key bs : Nat) : Int) : Int) == ((m.dir : Nat) : Int)))]) 4), (b10, .cells (#[I (((dcdD m.key bs : Nat) : Int)), U64 (dcdS m.key bs), U16 (dcdT m.key bs), U16 (dcdM m.key bs), .slice a31 n31 c31]) 100), (b9, .cells (#[.nilIface]) 27)]) (B := [(s, .cells (#[Ptr pp 0, I (((m.dir : Nat) : Int)), Ptr t 0, Ptr pc 0, Ptr pf 0, Ptr pe 0, U16 (m.rl), I (((m.rc : Nat) : Int)), U32 (m.re), U64 (m.fs), .bool (m.cz)]) E1), (pf, .cells (#[I (((m.ac + 1 : Nat) : Int)), I ((m.rf : Int)), U64 ((dcdS m.key bs) + 1)]) E2), (pc, .cells (#[U64 (m.nx), U64 (m.gv), .bool (false)]) E3), (t, .cells (tableC c m.key) E4), (c, .cells (cipherC m.key) E5), (pp, .cells (#[Str (mvA m.fx m.ad fr), .bool (m.fx), I (((mvN m.fx m.ad fr m.mv : Nat) : Int)), .map (some pm)]) E6), (pm, mOb encS vI m100)]) (Y := X31) (Z := Y80) (R := []) (St.swapT (A := [(b53, .cells (#[.func (.func 51) #[] #[Ptr b9 0], .func (.func 78) #[] #[Ptr p43 0, Ptr q43 0], .func (.func 78) #[] #[Ptr p52 0, Ptr q52 0]]) 95), (q52, .cells (#[I (9)]) 33), (p52, .cells (#[.bool ((!(frsh m.ls (dcdS m.key bs))))]) 4), (q43, .cells (#[I (8)]) 33), (p43, .cells (#[.bool (((((dcdD m.key bs : Nat) : Int) : Int) == ((m.dir : Nat) : Int)))]) 4), (b10, .cells (#[I (((dcdD m.key bs : Nat) : Int)), U64 (dcdS m.key bs), U16 (dcdT m.key bs), U16 (dcdM m.key bs), .slice a31 n31 c31]) 100), (b9, .cells (#[.nilIface]) 27), (s, .cells (#[Ptr pp 0, I (((m.dir : Nat) : Int)), Ptr t 0, Ptr pc 0, Ptr pf 0, Ptr pe 0, U16 (m.rl), I (((m.rc : Nat) : Int)), U32 (m.re), U64 (m.fs), .bool (m.cz)]) E1), (pf, .cells (#[I (((m.ac + 1 : Nat) : Int)), I ((m.rf : Int)), U64 ((dcdS m.key bs) + 1)]) E2), (pc, .cells (#[U64 (m.nx), U64 (m.gv), .bool (false)]) E3), (t, .cells (tableC c m.key) E4), (c, .cells (cipherC m.key) E5), (pp, .cells (#[Str (mvA m.fx m.ad fr), .bool (m.fx), I (((mvN m.fx m.ad fr m.mv : Nat) : Int)), .map (some pm)]) E6), (pm, mOb encS vI m100)]) (X := Y80) (Z := X31) (R := []) hS)⟩
end Go.Proofs.XS

/- walks -/
namespace Go.Proofs.XS
open Go Go.X Go.Proofs
theorem sp_RcvG (s : Nat) (m : SS) (X : List (Nat × Obj)) (a : Option Addr) (n cap : Nat) (bs : List UInt8) (fr : List UInt8) (x : UInt64) (w0 : World) (hO : SesO s m X) (hX : ∀ p ∈ X, w0.heap[p.1]? = some p.2) (hnd : (X.map Prod.fst).Nodup) (hn : bs.length = n) (hN : n ≤ 1000000) (hcap : n ≤ cap) (hc : CelX (X.map Prod.fst) w0 a (c8 bs)) (hG : GlX 1 (X.map Prod.fst) w0) {k : Nat} (hB : Bd m k) (hk : k < 1000000000) : Calls Tryz.prog 14 #[Ptr s 0, .slice a n cap, Str fr, U64 x] w0 (RetM w0 (X.map Prod.fst) (fun v L' => ∃ a' n' c' X' Y m' e' b', v = .tuple #[.slice a' n' c', errV 33 e'] ∧ SesO s m' X' ∧ m' = rcvM m bs fr x ∧ e' = rcvE m bs ∧ b' = rcvP m bs ∧ b'.length = n' ∧ n' ≤ 1000000 ∧ n' ≤ c' ∧ Rd a' b' Y ∧ L' = X' ++ Y)) :=
  (sp_session_Session_Receive s m X a n cap bs fr x w0 hO hX hnd hn hN hcap hc hG (hB.lt hk)).mono fun e w' ⟨v, L, he, ⟨a', n', c', X', Y, hv, hO2, hg, hL⟩, hS⟩ => ⟨v, L, he, ⟨a', n', c', X', Y, _, _, _, hv, hO2, rfl, rfl, rfl, hg.1, hg.2.1, hg.2.2.1, hg.2.2.2, hL⟩, hS⟩
end Go.Proofs.XS

/- walks -/
namespace Go.Proofs.XS
open Go Go.X Go.Proofs
set_option maxRecDepth 100000 in
theorem sp_awake22 (w0 : World) (hG : Gl 1 w0) : Calls Tryz.prog 8 #[] w0 (Ret w0 (.bool true)) := by
  refine enter (args := []) Tryz.func8 rfl rfl ?_
  refine startw fun w hS => ?_
  refine rg ?_
  refine asg rfl rfl rfl ?_
  refine wq_then ?_
  refine rg ?_
  refine bd (cs := BV (Vector.replicate 16 0)) rfl rfl rfl (by kernel_rfl) ?_
  refine cs cf9 hS rfl rfl rfl rfl rfl (sp_session_New ((Vector.replicate 16 0)) (0) (([115, 58, 49])) (5) _ _ (by omega) (by omega)) ?_
  rintro _ X20 w ⟨s20, rfl, hO20⟩ hS
  have hS := St.tailin (X := X20) hS [] [] rfl
  obtain ⟨m20, hm20⟩ : ∃ m, m = sesN (Vector.replicate 16 0) 0 ([115, 58, 49]) 5 := ⟨_, rfl⟩
  rw [← hm20] at hO20
  have hbd20 : Bd m20 0 := by rw [hm20]; exact Bd_new _ _ _ _
  refine mv rfl rfl rfl ?_
  refine ext rfl rfl rfl rfl ?_
  refine ext rfl rfl rfl rfl ?_
  refine asg rfl rfl rfl ?_
  refine asg rfl rfl rfl ?_
  refine wq_then ?_
  refine rg ?_
  refine bd (cs := BV (Vector.replicate 16 0)) rfl rfl rfl (by kernel_rfl) ?_
  refine cs cf9 hS rfl rfl rfl rfl rfl (sp_session_New ((Vector.replicate 16 0)) (1) (([])) (0) _ _ (by omega) (by omega)) ?_
  rintro _ X25 w ⟨s25, rfl, hO25⟩ hS
  have hS := St.tailin (X := X25) hS [] (X20 ++ []) rfl
  obtain ⟨m25, hm25⟩ : ∃ m, m = sesN (Vector.replicate 16 0) 1 ([]) 0 := ⟨_, rfl⟩
  rw [← hm25] at hO25
  have hbd25 : Bd m25 0 := by rw [hm25]; exact Bd_new _ _ _ _
  refine mv rfl rfl rfl ?_
  refine ext rfl rfl rfl rfl ?_
  refine ext rfl rfl rfl rfl ?_
  refine asg rfl rfl rfl ?_
  refine asg rfl rfl rfl ?_
  refine wq_then ?_
  refine rg ?_
  refine bd (cs := BV (Vector.replicate 16 0)) rfl rfl rfl (by kernel_rfl) ?_
  refine cv cf9 hS rfl rfl rfl rfl rfl (sp_NewBad ((Vector.replicate 16 0)) (2) (([])) (0) _ (by first | assumption | decide) (by first | assumption | decide)) ?_
  intro w hS
  refine mv rfl rfl rfl ?_
  refine ext rfl rfl rfl rfl ?_
  refine ext rfl rfl rfl rfl ?_
  refine asg rfl rfl rfl ?_
  refine asg rfl rfl rfl ?_
  refine wq_then ?_
  refine wc_seq ?_
  refine rg ?_
  refine mv rfl rfl rfl ?_
  refine eqpn Tryz.underlying25 rfl rfl rfl rfl ?_
  refine mv rfl rfl rfl ?_
  refine mv rfl rfl rfl ?_
  refine eqpn Tryz.underlying25 rfl rfl rfl rfl ?_
  refine pk_f rfl rfl rfl rfl ?_
  refine wq_then ?_
  refine wc_if_f rfl ?_
  refine wc_skip ?_
  refine wq_then ?_
  refine rg ?_
  refine mv rfl rfl rfl ?_
  refine cm cf10 rfl rfl rfl rfl rfl (sp_SndG s25 m25 X25 none 0 0 [] 0 _ hO25 (St.memT hS) (St.nodupT hS) (rfl) (by omega) (by omega) (fun _ w _ => Cel.nil w none) (fun _ _ k => by have hS := St.callX hS k; exact hG.st hS)) ?_
  rintro _ _ w ⟨a41, n41, c41, X41, Y41, m41, e41, ad41, q41, rfl, hO41, hm41, he41, ha41, hq41, hl41, hN41, hcp41, hR41, rfl⟩ hS1
  have hbd41 : Bd m41 0 := by rw [hm41]; exact Bd_snd hbd25 _
  have hS : St w0 [] ([] ++ (X41 ++ (Y41 ++ (X20 ++ [])))) w := St.callXY hS hS1
  refine mv rfl rfl rfl ?_
  refine ext rfl rfl rfl rfl ?_
  refine ext rfl rfl rfl rfl ?_
  refine ext rfl rfl rfl rfl ?_
  refine asg rfl rfl rfl ?_
  refine asg rfl rfl rfl ?_
  refine asg rfl rfl rfl ?_
  refine wq_then ?_
  refine rg ?_
  refine mv rfl rfl rfl ?_
  refine bsl (cs := #[U8 (104), U8 (105)]) sl30 hS rfl rfl rfl rfl (by kernel_rfl) ?_
  intro b47 w hb47 hS
  refine cvb 0 Tryz.underlying30 Tryz.underlying5 hS rfl rfl rfl rfl ?_
  intro w hS
  have hS : St w0 [] ([(b47, .cells (#[U8 (104), U8 (105)]) 5 (2, 2 + 1))] ++ (X41 ++ (Y41 ++ (X20 ++ [])))) w := hS
  refine cm cf10 rfl rfl rfl rfl rfl (sp_SndG s20 m20 X20 (some ⟨b47, 0, none⟩) 2 2 ([104, 105]) 70000 _ hO20 (St.memT (St.br2 hS)) (St.nodupT (St.br2 hS)) (by first | rfl | omega | (simp; omega) | (simp; done)) (by omega) (by omega) (fun _ _ k => by have hS := St.callX (St.br2 hS) k; exact Cel.lb (l := [104, 105]) (hS.get 0 rfl)) (fun _ _ k => by have hS := St.callX (St.br2 hS) k; exact hG.st hS)) ?_
  rintro _ _ w ⟨a49, n49, c49, X49, Y49, m49, e49, ad49, q49, rfl, hO49, hm49, he49, ha49, hq49, hl49, hN49, hcp49, hR49, rfl⟩ hS1
  have hbd49 : Bd m49 0 := by rw [hm49]; exact Bd_snd hbd20 _
  have hS : St w0 [] ([(b47, .cells (#[U8 (104), U8 (105)]) 5 (2, 2 + 1))] ++ (X49 ++ (Y49 ++ (X41 ++ (Y41 ++ []))))) w := St.callXY (St.br2 hS) hS1
  refine mv rfl rfl rfl ?_
  refine ext rfl rfl rfl rfl ?_
  refine ext rfl rfl rfl rfl ?_
  refine ext rfl rfl rfl rfl ?_
  refine asg rfl rfl rfl ?_
  refine asg rfl rfl rfl ?_
  refine asg rfl rfl rfl ?_
  refine wq_then ?_
  refine rg ?_
  refine mv rfl rfl rfl ?_
  refine mv rfl rfl rfl ?_
  have hS : St w0 [] ([(b47, .cells (#[U8 (104), U8 (105)]) 5 (2, 2 + 1))] ++ (X49 ++ (Y49 ++ (X41 ++ (Y41 ++ []))))) w := hS
  refine cm cf14 rfl rfl rfl rfl rfl (sp_RcvG s25 m41 X41 a49 n49 c49 q49 ([99, 58, 50]) 70010 _ hO41 (St.memT (St.br2 hS)) (St.nodupT (St.br2 hS)) hl49 (by omega) (by omega) (fun _ _ k => by have hS := St.callX (St.br2 hS) k; exact hR49 _ _ _ _ hS (fun p hp => by simp [hp])) (fun _ _ k => by have hS := St.callX (St.br2 hS) k; exact hG.st hS) hbd41 (by omega)) ?_
  rintro _ _ w ⟨a56, n56, c56, X56, Y56, m56, e56, q56, rfl, hO56, hm56, he56, hq56, hl56, hN56, hcp56, hR56, rfl⟩ hS1
  have hbd56 : Bd m56 (0 + 1) := by rw [hm56]; exact Bd_rcv hbd41 _ _ _
  have hS : St w0 [] ([(b47, .cells (#[U8 (104), U8 (105)]) 5 (2, 2 + 1))] ++ (X56 ++ (Y56 ++ (X49 ++ (Y49 ++ (Y41 ++ [])))))) w := St.callXY (St.br2 hS) hS1
  refine mv rfl rfl rfl ?_
  refine ext rfl rfl rfl rfl ?_
  refine ext rfl rfl rfl rfl ?_
  refine asg rfl rfl rfl ?_
  refine asg rfl rfl rfl ?_
  refine wq_then ?_
  refine rg ?_
  refine mv rfl rfl rfl ?_
  refine mv rfl rfl rfl ?_
  have hS : St w0 [] ([(b47, .cells (#[U8 (104), U8 (105)]) 5 (2, 2 + 1))] ++ (X56 ++ (Y56 ++ (X49 ++ (Y49 ++ (Y41 ++ [])))))) w := hS
  refine cm cf14 rfl rfl rfl rfl rfl (sp_RcvG s25 m56 X56 a49 n49 c49 q49 ([99, 58, 51]) 70011 _ hO56 (St.memT hS) (St.nodupT hS) hl49 (by omega) (by omega) (fun _ _ k => by have hS := St.callX hS k; exact hR49 _ _ _ _ hS (fun p hp => by simp [hp])) (fun _ _ k => by have hS := St.callX hS k; exact hG.st hS) hbd56 (by omega)) ?_
  rintro _ _ w ⟨a62, n62, c62, X62, Y62, m62, e62, q62, rfl, hO62, hm62, he62, hq62, hl62, hN62, hcp62, hR62, rfl⟩ hS1
  have hbd62 : Bd m62 ((0 + 1) + 1) := by rw [hm62]; exact Bd_rcv hbd56 _ _ _
  have hS : St w0 [] ([(b47, .cells (#[U8 (104), U8 (105)]) 5 (2, 2 + 1))] ++ (X62 ++ (Y62 ++ (Y56 ++ (X49 ++ (Y49 ++ (Y41 ++ []))))))) w := St.callXY hS hS1
  obtain ⟨hw1, hw2, hw3, hw4, hw5, hw6, hw7, hw8, hw9, hw10, hw11⟩ := awk hm20 hm25 he41 hm41 he49 hm49 ha49 hq49 he56 hq56 hm56 he62 hm62
  refine mv rfl rfl rfl ?_
  refine ext rfl rfl rfl rfl ?_
  refine ext rfl rfl rfl rfl ?_
  refine asg rfl rfl rfl ?_
  refine asg rfl rfl rfl ?_
  refine wq_then ?_
  refine rg ?_
  refine mv rfl rfl rfl ?_
  have hS : St w0 [] ([(b47, .cells (#[U8 (104), U8 (105)]) 5 (2, 2 + 1))] ++ (X62 ++ (Y62 ++ (Y56 ++ (X49 ++ (Y49 ++ (Y41 ++ []))))))) w := hS
  refine cv (v := .agg (#[U64 (m62.fs + m62.gv), U64 (lstV m62.ls), .bool (decide (m62.ls ≠ 0)), I (((m62.ac : Nat) : Int)), I (((m62.rf : Nat) : Int)), Str m62.ad, I (((m62.mv : Nat) : Int)), I (((m62.rc : Nat) : Int)), U16 (m62.rl), .bool (m62.cz)])) cf12 hS rfl rfl rfl rfl rfl (sp_session_Session_Status s25 m62 X62 _ hO62 (St.memT hS)) ?_
  intro w hS
  refine ala zr38 hS rfl rfl ?_
  intro b17 w hb17 hS
  refine sa 0 ag38 hS rfl rfl rfl (by kernel_rfl) rfl rfl rfl ?_
  intro w hS
  refine wq_then ?_
  refine rg ?_
  refine mv rfl rfl rfl ?_
  refine eqnn (s := 0) Tryz.underlying27 rfl rfl rfl rfl ?_
  refine mv rfl rfl rfl ?_
  refine mv rfl rfl rfl ?_
  refine eqnn (s := 0) Tryz.underlying27 rfl rfl rfl rfl ?_
  refine pk_t rfl rfl rfl rfl ?_
  refine mv rfl rfl rfl ?_
  refine mv rfl rfl rfl ?_
  refine mki cc33 rfl rfl rfl ?_
  refine eqEE (c := 8) Tryz.underlying27 ec33 rfl rfl rfl rfl ?_
  refine pk_t rfl rfl rfl rfl ?_
  refine mv rfl rfl rfl ?_
  refine spl 78 rfl (fun hb1 => ?_) (fun hb1 => ?_)
  · skip
    try simp only [SB] at hb1
    refine mv rfl rfl rfl ?_
    refine mki cc33 rfl rfl rfl ?_
    refine eqEE (c := e41) Tryz.underlying27 ec33 rfl rfl rfl rfl ?_
    refine pk_t rfl rfl rfl rfl ?_
    refine mv rfl rfl rfl ?_
    refine spl 83 rfl (fun hb2 => ?_) (fun hb2 => ?_)
    · skip
      try simp only [SB] at hb2
      refine mv rfl rfl rfl ?_
      refine eqs rfl rfl rfl rfl ?_
      refine pk_t rfl rfl rfl rfl ?_
      refine mv rfl rfl rfl ?_
      refine spl 87 rfl (fun hb3 => ?_) (fun hb3 => ?_)
      · skip
        try simp only [SB] at hb3
        refine mv rfl rfl rfl ?_
        refine eqE (C := 33) (c := e49) Tryz.underlying27 rfl rfl rfl ?_
        refine pk_t rfl rfl rfl rfl ?_
        refine mv rfl rfl rfl ?_
        refine spl 91 rfl (fun hb4 => ?_) (fun hb4 => ?_)
        · skip
          try simp only [SB] at hb4
          refine mv rfl rfl rfl ?_
          refine cvbs Tryz.underlying30 Tryz.underlying5 Tryz.underlying9 rfl rfl rfl (hR56 _ _ _ _ hS (fun p hp => by simp [hp])) hl56 ?_
          refine eqs rfl rfl rfl rfl ?_
          refine pk_t rfl rfl rfl rfl ?_
          refine mv rfl rfl rfl ?_
          refine spl 96 rfl (fun hb5 => ?_) (fun hb5 => ?_)
          · skip
            try simp only [SB] at hb5
            refine mv rfl rfl rfl ?_
            refine eqE (C := 33) (c := e56) Tryz.underlying27 rfl rfl rfl ?_
            refine pk_t rfl rfl rfl rfl ?_
            refine mv rfl rfl rfl ?_
            refine spl 100 rfl (fun hb6 => ?_) (fun hb6 => ?_)
            · skip
              try simp only [SB] at hb6
              refine mv rfl rfl rfl ?_
              refine mki cc33 rfl rfl rfl ?_
              refine eqEE (c := e62) Tryz.underlying27 ec33 rfl rfl rfl rfl ?_
              refine pk_t rfl rfl rfl rfl ?_
              refine mv rfl rfl rfl ?_
              refine spl 105 rfl (fun hb7 => ?_) (fun hb7 => ?_)
              · skip
                try simp only [SB] at hb7
                refine fan (5) (5) Tryz.underlying38 rfl sz9 (by decide) rfl rfl rfl rfl (by omega) ?_
                refine lo 0 sc9 hS rfl rfl rfl rfl rfl ?_
                refine eqs rfl rfl rfl rfl ?_
                refine pk_t rfl rfl rfl rfl ?_
                refine mv rfl rfl rfl ?_
                refine spl 110 rfl (fun hb8 => ?_) (fun hb8 => ?_)
                · skip
                  try simp only [SB] at hb8
                  refine fan (1) (1) Tryz.underlying38 rfl sz24 (by decide) rfl rfl rfl rfl (by omega) ?_
                  refine lo 0 sc24 hS rfl rfl rfl rfl rfl ?_
                  refine eqi rfl rfl rfl rfl ?_
                  refine pk_t rfl rfl rfl rfl ?_
                  refine mv rfl rfl rfl ?_
                  refine spl 115 rfl (fun hb9 => ?_) (fun hb9 => ?_)
                  · skip
                    try simp only [SB] at hb9
                    refine fan (2) (2) Tryz.underlying38 rfl sz4 (by decide) rfl rfl rfl rfl (by omega) ?_
                    refine lo 0 sc4 hS rfl rfl rfl rfl rfl ?_
                    refine pk_t rfl rfl rfl rfl ?_
                    refine mv rfl rfl rfl ?_
                    refine spl 119 rfl (fun hb10 => ?_) (fun hb10 => ?_)
                    · skip
                      try simp only [SB] at hb10
                      refine fan (4) (4) Tryz.underlying38 rfl sz3 (by decide) rfl rfl rfl rfl (by omega) ?_
                      refine lo 0 sc3 hS rfl rfl rfl rfl rfl ?_
                      refine eqi rfl rfl rfl rfl ?_
                      refine pk_t rfl rfl rfl rfl ?_
                      refine mv rfl rfl rfl ?_
                      refine spl 124 rfl (fun hb11 => ?_) (fun hb11 => ?_)
                      · skip
                        try simp only [SB] at hb11
                        refine mv rfl rfl rfl ?_
                        have hS : St w0 [] ([(b17, .cells (#[U64 (m62.fs + m62.gv), U64 (lstV m62.ls), .bool (decide (m62.ls ≠ 0)), I (((m62.ac : Nat) : Int)), I (((m62.rf : Nat) : Int)), Str m62.ad, I (((m62.mv : Nat) : Int)), I (((m62.rc : Nat) : Int)), U16 (m62.rl), .bool (m62.cz)]) 38), (b47, .cells (#[U8 (104), U8 (105)]) 5 (2, 2 + 1))] ++ (X62 ++ (Y62 ++ (Y56 ++ (X49 ++ (Y49 ++ (Y41 ++ []))))))) w := hS
                        refine cv (v := .agg (#[U64 (m49.fs + m49.gv), U64 (lstV m49.ls), .bool (decide (m49.ls ≠ 0)), I (((m49.ac : Nat) : Int)), I (((m49.rf : Nat) : Int)), Str m49.ad, I (((m49.mv : Nat) : Int)), I (((m49.rc : Nat) : Int)), U16 (m49.rl), .bool (m49.cz)])) cf12 hS rfl rfl rfl rfl rfl (sp_session_Session_Status s20 m49 X49 _ hO49 (St.memT (St.br3 hS))) ?_
                        intro w hS
                        refine fld Tryz.underlying38 rfl sc24 rfl rfl rfl rfl ?_
                        refine eqi rfl rfl rfl rfl ?_
                        refine pk_t rfl rfl rfl rfl ?_
                        refine asg rfl rfl rfl ?_
                        refine wq_then ?_
                        refine wc_ret ?_
                        refine fin1 (v := .bool ((((m49.fs + m49.gv).toNat : Int) : Int) == (6 : Int))) rfl rfl ?_
                        refine ⟨?_, hS.drop⟩
                        rw [hw11]; rfl
                      · skip
                        try simp only [SB] at hb11
                        exact absurd (by first | omega | (simp only [*]; done) | exact hw8 | (rw [hw2]; done) | (rw [hw8]; rfl)) hb11
                    · skip
                      try simp only [SB] at hb10
                      exact absurd (by first | omega | (simp only [*]; done) | exact hw8 | (rw [hw2]; done) | (rw [hw8]; rfl)) hb10
                  · skip
                    try simp only [SB] at hb9
                    exact absurd (by first | omega | (simp only [*]; done) | exact hw8 | (rw [hw2]; done) | (rw [hw8]; rfl)) hb9
                · skip
                  try simp only [SB] at hb8
                  exact absurd (by first | omega | (simp only [*]; done) | exact hw8 | (rw [hw2]; done) | (rw [hw8]; rfl)) hb8
              · skip
                try simp only [SB] at hb7
                exact absurd (by first | omega | (simp only [*]; done) | exact hw8 | (rw [hw2]; done) | (rw [hw8]; rfl)) hb7
            · skip
              try simp only [SB] at hb6
              exact absurd (by first | omega | (simp only [*]; done) | exact hw8 | (rw [hw2]; done) | (rw [hw8]; rfl)) hb6
          · skip
            try simp only [SB] at hb5
            exact absurd (by first | omega | (simp only [*]; done) | exact hw8 | (rw [hw2]; done) | (rw [hw8]; rfl)) hb5
        · skip
          try simp only [SB] at hb4
          exact absurd (by first | omega | (simp only [*]; done) | exact hw8 | (rw [hw2]; done) | (rw [hw8]; rfl)) hb4
      · skip
        try simp only [SB] at hb3
        exact absurd (by first | omega | (simp only [*]; done) | exact hw8 | (rw [hw2]; done) | (rw [hw8]; rfl)) hb3
    · skip
      try simp only [SB] at hb2
      exact absurd (by first | omega | (simp only [*]; done) | exact hw8 | (rw [hw2]; done) | (rw [hw8]; rfl)) hb2
  · skip
    try simp only [SB] at hb1
    exact absurd (by first | omega | (simp only [*]; done) | exact hw8 | (rw [hw2]; done) | (rw [hw8]; rfl)) hb1
end Go.Proofs.XS
