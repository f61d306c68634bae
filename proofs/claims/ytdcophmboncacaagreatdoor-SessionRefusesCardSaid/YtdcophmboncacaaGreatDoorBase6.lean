/- Part 6 of the ground of this seat's proofs: rules of a calculus of walks, and what the functions of the lower layers compute; no conditions beyond those that each statement bears. -/
import Derived.Test.YtdcophmboncacaaGreatDoorBase5
import Derived.Test.YtdcophmboncacaaGreatDoorProg
set_option linter.unusedVariables false
set_option linter.unusedSimpArgs false
set_option linter.unnecessarySimpa false
set_option linter.defProp false
set_option maxRecDepth 100000
set_option maxHeartbeats 2000000
namespace Go.Proofs.XS
open Go Go.X Go.Proofs
theorem sp_open_Decrypt (t c : Nat) (key : V8 16) (nonce : V8 12) (a : Option Addr) (n cap : Nat) (bs : List UInt8) (w0 : World) (hT : TabAt w0 t c key) (hn : bs.length = n) (hN : n ≤ 1000000) (hc : Cel w0 a (c8 bs)) (hcap : n ≤ cap) (hG : Gl 1 w0) : Calls Tryz.prog 121 #[Ptr t 0, .agg (BV nonce), .slice a n cap] w0 (RetS w0 (fun v X => ∃ a' c', v = .tuple #[.slice a' n c', .agg (BV (decC key nonce bs)), .agg (BV (cryO key nonce n))] ∧ Own 1 a' n c' (c8 (decT key nonce bs)) X)) := by
 refine enterM (args := [Ptr t 0, .agg (BV nonce), .slice a n cap]) Tryz.func121 O O<|startw fun w hS =>?_
 obtain ⟨⟨T, hT1⟩, E, hC⟩ := id hT
 refine rg<|bx1 hS O O O O fun b3 w hb3 hS =>bxa hS O O O fun b4 w hb4 hS =>al1 zr30 hS O O O fun b6 w hb6 hS =>ala zr22 hS O O fun b7 w hb7 hS =>ala zr22 hS O O fun b8 w hb8 hS =>wt<|rg<|lo 4 sc77 hS O O O O O<|la 3 ag173 hS O O O O (BV_size _)<|cv cf139 hS O O O O O (sp_offset_Start t c key nonce _ (hT.st hS)) fun w hS =>sa 0 ag22 hS O O O (BV_one _) O (BV_size _) (BV_size _) fun w hS =>?_
 refine wt<|rg<|mkf O O O<|al1 zr241 hS O O O fun b9 w hb9 hS =>st 0 sz241 hS O O O O O O Nat.zero_lt_one O fun w hS =>wt<|wc_seq<|rg<|mv O O O<|cs cf141 hS O O O O O (sp_block_All a n cap _) ?_
 rintro _ _ w ⟨b23, rfl, rfl⟩ hS
 refine wt<|wc_block ?_
 refine wc_range2 (m := 0) (fun k =>I ((k + 1 : Nat) : Int)) (fun k =>.agg (BV (blk bs k))) (n / 16) (fun W =>W.heap[b23]? = some (.cells #[.slice a n cap] 30) ∧ Cel W a (c8 bs)) (fun k L =>∃ s : Option Addr × Nat × List (Nat × Obj), (Own 1 s.1 (k * 16) s.2.1 (c8 (deT key nonce bs k)) s.2.2) ∧ L = ([(b23, .cells (#[(.slice a n cap)]) 30), (b9, .cells (#[.func (.func 150) #[] #[Ptr b6 0, Ptr b7 0]]) 241), (b8, .cells (BV (crO key nonce k)) 22), (b7, .cells (BV (deC key nonce bs k)) 22), (b6, .cells (#[.slice s.1 (k * 16) s.2.1]) 30), (b4, .cells (BV nonce) 173), (b3, .cells (#[Ptr t 0]) 77)] ++ (s.2.2 ++ []))) O cf172 O O hS ⟨(none, 0, []), Own.nil 1, O⟩ ?_ ?_ ?_ ?_
 ·exact fun lp J W hJ hY h0 => sp_block_All_1 0 lp b23 _ n cap a bs J hn hN hcap hJ hY W h0
 ·exact fun k L' W hL hS => by obtain ⟨s, hinv, rfl⟩ := hL; exact ⟨hS.get 0 rfl, hc.st hS⟩
 ·rintro k lp D r _ w hr hp hk ⟨s, hO, rfl⟩ hS
  have hS : St w0 [] ([(lp, .loop r), (D, .deferred (some [])), (b23, .cells (#[(.slice a n cap)]) 30), (b9, .cells (#[.func (.func 150) #[] #[Ptr b6 0, Ptr b7 0]]) 241), (b8, .cells (BV (crO key nonce k)) 22), (b7, .cells (BV (deC key nonce bs k)) 22), (b6, .cells (#[.slice s.1 (k * 16) s.2.1]) 30), (b4, .cells (BV nonce) 173), (b3, .cells (#[Ptr t 0]) 77)] ++ (s.2.2 ++ [])) w := hS
  have hx := toU64_ne (k + 1) (by omega) (by omega)
  refine rgi ?_
  refine wi O (asg O O O ?_)
  refine wqi_then<|wci_region ?_
  refine wi O (ala zr22 hS O O ?_)
  intro b11 w hb11 hS
  refine wi O (sa 0 ag22 hS O O O (BV_one _) O (BV_size _) (BV_size _) ?_)
  intro w hS
  refine begin_q 1 hS O hr (fun w hS =>wk_ci ?_)
  refine wci_block<|rgi ?_
  refine wi O (lo 9 sc77 hS O O O O O ?_)
  refine wi O (la 5 ag22 hS O O O O (BV_size _) ?_)
  refine wi O (mv O O O ?_)
  refine wi O (cvu64 un24 ⟨_, un3⟩ O O O ?_)
  refine wi O (cv (v := .agg (BV (crO key nonce (k + 1)))) cf142 hS O O O O O (sp_offset_Next t c key ((crO key nonce k)) ((toU64 (((k + 1 : Nat) : Int)))) _ (hT.st hS) (by assumption) (hG.st hS)) ?_)
  intro w hS
  refine wi O (sa 5 ag22 hS O O O (BV_one _) O (BV_size _) (BV_size _) ?_)
  intro w hS
  refine wqi_then <| rdi mo (by kernel_rfl) 9 (fun w => St w0 [] ([(b11, .cells (BV (blk bs k)) 22), (lp, .loop { r with state := .busy }), (D, .deferred (some [])), (b23, .cells (#[(.slice a n cap)]) 30), (b9, .cells (#[.func (.func 150) #[] #[Ptr b6 0, Ptr b7 0]]) 241), (b8, .cells (BV (crO key nonce (k + 1))) 22), (b7, .cells (BV (deC key nonce bs k)) 22), (b6, .cells (#[.slice s.1 (k * 16) s.2.1]) 30), (b4, .cells (BV nonce) 173), (b3, .cells (#[Ptr t 0]) 77)] ++ (s.2.2 ++ [])) w) <| have hS := hS.drew; jx hS fun jj => dx 0 rfl (by kernel_rfl) (fun w hS => la 5 ag22 hS rfl rfl rfl rfl (BV_size _) rr) jj <| dx 1 rfl (by kernel_rfl) (fun w hS => lo 9 sc77 hS rfl rfl rfl rfl rfl rr) jj <| dx 3 rfl (by kernel_rfl) (fun w hS => la 0 ag22 hS rfl rfl rfl rfl (BV_size _) rr) jj <| dx 4 rfl (by kernel_rfl) (fun w hS => la 5 ag22 hS rfl rfl rfl rfl (BV_size _) rr) jj ?_
  refine dl2 2 8 O O (by kernel_rfl) ?_ ?_
  ·refine cv cf144 hS O O O O O (sp_table_Table_Cipher t c key _ (hT.st hS)) fun w hS =>lx hS fun jj =>?_
   refine dl2 5 8 O O (by kernel_rfl) ?_ ?_
   ·refine cv cf143 hS O O O O O (sp_block_Xor ((blk bs k)) ((crO key nonce (k + 1))) _) fun w hS =>lx hS fun jj =>?_
    refine dl2 6 8 O O (by kernel_rfl) ?_ ?_
    ·refine cv cf151 hS O O O O O (sp_fast_Cipher_Decrypt c _ key ((xorV (blk bs k) (crO key nonce (k + 1)))) _ (hS.old hC List.not_mem_nil)) fun w hS =>lx hS fun jj =>?_
     refine dl2 7 8 O O (by kernel_rfl) ?_ ?_
     ·refine cv (v := .agg (BV (deB key nonce bs k))) cf143 hS O O O O O (sp_block_Xor ((crO key nonce (k + 1))) ((dec key (xorV (blk bs k) (crO key nonce (k + 1))))) _) fun w hS =>lx hS fun jj =>?_
      refine dl 8 O (by kernel_rfl)<|ala zr22 hS O O fun b12 w hb12 hS =>lx hS.tl fun jj =>?_
      refine dl 9 rfl (by kernel_rfl) <| sa 0 ag22 hS rfl rfl rfl (BV_one _) rfl (BV_size _) (BV_size _) fun w hS => ly rfl <| de (by kernel_rfl) <| wqi_then <| wci_draw mo (by kernel_rfl) 3 (fun w => St w0 [] ([(b12, .cells (BV (deB key nonce bs k)) 22), (b11, .cells (BV (blk bs k)) 22), (lp, .loop { r with state := .busy }), (D, .deferred (some [])), (b23, .cells (#[(.slice a n cap)]) 30), (b9, .cells (#[.func (.func 150) #[] #[Ptr b6 0, Ptr b7 0]]) 241), (b8, .cells (BV (crO key nonce (k + 1))) 22), (b7, .cells (BV (deC key nonce bs k)) 22), (b6, .cells (#[.slice s.1 (k * 16) s.2.1]) 30), (b4, .cells (BV nonce) 173), (b3, .cells (#[Ptr t 0]) 77)] ++ (s.2.2 ++ [])) w) <| have hS := hS.drew; jx hS fun jj => dx 0 rfl (by kernel_rfl) (fun w hS => lo 5 sc241 hS rfl rfl rfl rfl rfl rr) jj <| dx 1 rfl (by kernel_rfl) (fun w hS => a_all un22 ⟨_, sz5⟩ rfl rfl rfl rr) jj <| dx 2 rfl (by kernel_rfl) (fun w hS => la 0 ag22 hS rfl rfl rfl rfl (BV_size _) rr) jj ?_
      refine dl 3 rfl (by kernel_rfl) <| cl cf150 rfl rfl rfl rfl rfl (sp_open_Decrypt_1 (some ⟨b12, 0, none⟩) 16 16 ((deB key nonce bs k).toList) (deB key nonce bs k) (deC key nonce bs k) _ _ _ _ s.1 (k * 16) s.2.1 (deT key nonce bs k) s.2.2 _ Vector.length_toList (by omega) (Cel.bv (hS.get 0 rfl)) (hS.get 8 rfl) (hS.get 7 rfl) hO (fun p hp => (hS.own p (by simp [hp])).2) (St.nd2 (A := [(b12, .cells (BV (deB key nonce bs k)) 22), (b11, .cells (BV (blk bs k)) 22), (lp, .loop { r with state := .busy }), (D, .deferred (some [])), (b23, .cells (#[(.slice a n cap)]) 30), (b9, .cells (#[.func (.func 150) #[] #[Ptr b6 0, Ptr b7 0]]) 241), (b8, .cells (BV (crO key nonce (k + 1))) 22), (b7, .cells (BV (deC key nonce bs k)) 22), (b6, .cells (#[.slice s.1 (k * 16) s.2.1]) 30), (b4, .cells (BV nonce) 173), (b3, .cells (#[Ptr t 0]) 77)]) (R := []) (i := 8) (j := 7) hS rfl rfl)) ?_
      rintro _ w ⟨a42, c42, X42, ⟨v42, rfl⟩, hO42, hS1⟩
      refine ⟨_, O, ?_⟩
      have hS : St w0 [] ([(b12, .cells (BV (deB key nonce bs k)) 22), (b11, .cells (BV (blk bs k)) 22), (lp, .loop { r with state := .busy }), (D, .deferred (some [])), (b23, .cells (#[(.slice a n cap)]) 30), (b9, .cells (#[.func (.func 150) #[] #[Ptr b6 0, Ptr b7 0]]) 241), (b8, .cells (BV (crO key nonce (k + 1))) 22), (b7, .cells (BV (xorV (deC key nonce bs k) (deB key nonce bs k))) 22), (b6, .cells (#[.slice a42 ((k * 16) + 16) c42]) 30), (b4, .cells (BV nonce) 173), (b3, .cells (#[Ptr t 0]) 77)] ++ (X42 ++ [])) w := St.call_out2 (A := [(b12, .cells (BV (deB key nonce bs k)) 22), (b11, .cells (BV (blk bs k)) 22), (lp, .loop { r with state := .busy }), (D, .deferred (some [])), (b23, .cells (#[(.slice a n cap)]) 30), (b9, .cells (#[.func (.func 150) #[] #[Ptr b6 0, Ptr b7 0]]) 241), (b8, .cells (BV (crO key nonce (k + 1))) 22), (b7, .cells (BV (deC key nonce bs k)) 22), (b6, .cells (#[.slice s.1 (k * 16) s.2.1]) 30), (b4, .cells (BV nonce) 173), (b3, .cells (#[Ptr t 0]) 77)]) (A2 := [(b12, .cells (BV (deB key nonce bs k)) 22), (b11, .cells (BV (blk bs k)) 22), (lp, .loop { r with state := .busy }), (D, .deferred (some [])), (b23, .cells (#[(.slice a n cap)]) 30), (b9, .cells (#[.func (.func 150) #[] #[Ptr b6 0, Ptr b7 0]]) 241), (b8, .cells (BV (crO key nonce (k + 1))) 22), (b7, .cells (BV (xorV (deC key nonce bs k) (deB key nonce bs k))) 22), (b6, .cells (#[.slice a42 ((k * 16) + 16) c42]) 30), (b4, .cells (BV nonce) 173), (b3, .cells (#[Ptr t 0]) 77)]) (i := 8) (j := 7) hS rfl rfl rfl rfl rfl hS1
      refine ly O<|de (by kernel_rfl)<|q_block_norm ?_
      refine end_q 2 hS O hr hp (fun w hS =>?_)
      have e16 : k * 16 + 16 = (k + 1) * 16 := by omega
      rw [e16] at hS hO42
      exact ⟨rfl, _, ⟨(a42, c42, X42), hO42, rfl⟩, hS.tl.tl⟩
     ·refine ala zr22 hS O O fun b12 w hb12 hS =>lx hS.tl fun jj =>?_
      refine dl 7 O (by kernel_rfl)<|cv (v := .agg (BV (deB key nonce bs k))) cf143 hS O O O O O (sp_block_Xor ((crO key nonce (k + 1))) ((dec key (xorV (blk bs k) (crO key nonce (k + 1))))) _) fun w hS =>lx hS.tl fun jj =>?_
      refine dl 9 rfl (by kernel_rfl) <| sa 0 ag22 hS rfl rfl rfl (BV_one _) rfl (BV_size _) (BV_size _) fun w hS => ly rfl <| de (by kernel_rfl) <| wqi_then <| wci_draw mo (by kernel_rfl) 3 (fun w => St w0 [] ([(b12, .cells (BV (deB key nonce bs k)) 22), (b11, .cells (BV (blk bs k)) 22), (lp, .loop { r with state := .busy }), (D, .deferred (some [])), (b23, .cells (#[(.slice a n cap)]) 30), (b9, .cells (#[.func (.func 150) #[] #[Ptr b6 0, Ptr b7 0]]) 241), (b8, .cells (BV (crO key nonce (k + 1))) 22), (b7, .cells (BV (deC key nonce bs k)) 22), (b6, .cells (#[.slice s.1 (k * 16) s.2.1]) 30), (b4, .cells (BV nonce) 173), (b3, .cells (#[Ptr t 0]) 77)] ++ (s.2.2 ++ [])) w) <| have hS := hS.drew; jx hS fun jj => dx 0 rfl (by kernel_rfl) (fun w hS => lo 5 sc241 hS rfl rfl rfl rfl rfl rr) jj <| dx 1 rfl (by kernel_rfl) (fun w hS => a_all un22 ⟨_, sz5⟩ rfl rfl rfl rr) jj <| dx 2 rfl (by kernel_rfl) (fun w hS => la 0 ag22 hS rfl rfl rfl rfl (BV_size _) rr) jj ?_
      refine dl 3 rfl (by kernel_rfl) <| cl cf150 rfl rfl rfl rfl rfl (sp_open_Decrypt_1 (some ⟨b12, 0, none⟩) 16 16 ((deB key nonce bs k).toList) (deB key nonce bs k) (deC key nonce bs k) _ _ _ _ s.1 (k * 16) s.2.1 (deT key nonce bs k) s.2.2 _ Vector.length_toList (by omega) (Cel.bv (hS.get 0 rfl)) (hS.get 8 rfl) (hS.get 7 rfl) hO (fun p hp => (hS.own p (by simp [hp])).2) (St.nd2 (A := [(b12, .cells (BV (deB key nonce bs k)) 22), (b11, .cells (BV (blk bs k)) 22), (lp, .loop { r with state := .busy }), (D, .deferred (some [])), (b23, .cells (#[(.slice a n cap)]) 30), (b9, .cells (#[.func (.func 150) #[] #[Ptr b6 0, Ptr b7 0]]) 241), (b8, .cells (BV (crO key nonce (k + 1))) 22), (b7, .cells (BV (deC key nonce bs k)) 22), (b6, .cells (#[.slice s.1 (k * 16) s.2.1]) 30), (b4, .cells (BV nonce) 173), (b3, .cells (#[Ptr t 0]) 77)]) (R := []) (i := 8) (j := 7) hS rfl rfl)) ?_
      rintro _ w ⟨a42, c42, X42, ⟨v42, rfl⟩, hO42, hS1⟩
      refine ⟨_, O, ?_⟩
      have hS : St w0 [] ([(b12, .cells (BV (deB key nonce bs k)) 22), (b11, .cells (BV (blk bs k)) 22), (lp, .loop { r with state := .busy }), (D, .deferred (some [])), (b23, .cells (#[(.slice a n cap)]) 30), (b9, .cells (#[.func (.func 150) #[] #[Ptr b6 0, Ptr b7 0]]) 241), (b8, .cells (BV (crO key nonce (k + 1))) 22), (b7, .cells (BV (xorV (deC key nonce bs k) (deB key nonce bs k))) 22), (b6, .cells (#[.slice a42 ((k * 16) + 16) c42]) 30), (b4, .cells (BV nonce) 173), (b3, .cells (#[Ptr t 0]) 77)] ++ (X42 ++ [])) w := St.call_out2 (A := [(b12, .cells (BV (deB key nonce bs k)) 22), (b11, .cells (BV (blk bs k)) 22), (lp, .loop { r with state := .busy }), (D, .deferred (some [])), (b23, .cells (#[(.slice a n cap)]) 30), (b9, .cells (#[.func (.func 150) #[] #[Ptr b6 0, Ptr b7 0]]) 241), (b8, .cells (BV (crO key nonce (k + 1))) 22), (b7, .cells (BV (deC key nonce bs k)) 22), (b6, .cells (#[.slice s.1 (k * 16) s.2.1]) 30), (b4, .cells (BV nonce) 173), (b3, .cells (#[Ptr t 0]) 77)]) (A2 := [(b12, .cells (BV (deB key nonce bs k)) 22), (b11, .cells (BV (blk bs k)) 22), (lp, .loop { r with state := .busy }), (D, .deferred (some [])), (b23, .cells (#[(.slice a n cap)]) 30), (b9, .cells (#[.func (.func 150) #[] #[Ptr b6 0, Ptr b7 0]]) 241), (b8, .cells (BV (crO key nonce (k + 1))) 22), (b7, .cells (BV (xorV (deC key nonce bs k) (deB key nonce bs k))) 22), (b6, .cells (#[.slice a42 ((k * 16) + 16) c42]) 30), (b4, .cells (BV nonce) 173), (b3, .cells (#[Ptr t 0]) 77)]) (i := 8) (j := 7) hS rfl rfl rfl rfl rfl hS1
      refine ly O<|de (by kernel_rfl)<|q_block_norm ?_
      refine end_q 2 hS O hr hp (fun w hS =>?_)
      have e16 : k * 16 + 16 = (k + 1) * 16 := by omega
      rw [e16] at hS hO42
      exact ⟨rfl, _, ⟨(a42, c42, X42), hO42, rfl⟩, hS.tl.tl⟩
    ·refine ala zr22 hS O O fun b12 w hb12 hS =>lx hS.tl fun jj =>?_
     refine dl 6 O (by kernel_rfl)<|cv cf151 hS O O O O O (sp_fast_Cipher_Decrypt c _ key ((xorV (blk bs k) (crO key nonce (k + 1)))) _ (hS.old hC List.not_mem_nil)) fun w hS =>lx hS.tl fun jj =>?_
     refine dl 7 O (by kernel_rfl)<|cv (v := .agg (BV (deB key nonce bs k))) cf143 hS O O O O O (sp_block_Xor ((crO key nonce (k + 1))) ((dec key (xorV (blk bs k) (crO key nonce (k + 1))))) _) fun w hS =>lx hS.tl fun jj =>?_
     refine dl 9 rfl (by kernel_rfl) <| sa 0 ag22 hS rfl rfl rfl (BV_one _) rfl (BV_size _) (BV_size _) fun w hS => ly rfl <| de (by kernel_rfl) <| wqi_then <| wci_draw mo (by kernel_rfl) 3 (fun w => St w0 [] ([(b12, .cells (BV (deB key nonce bs k)) 22), (b11, .cells (BV (blk bs k)) 22), (lp, .loop { r with state := .busy }), (D, .deferred (some [])), (b23, .cells (#[(.slice a n cap)]) 30), (b9, .cells (#[.func (.func 150) #[] #[Ptr b6 0, Ptr b7 0]]) 241), (b8, .cells (BV (crO key nonce (k + 1))) 22), (b7, .cells (BV (deC key nonce bs k)) 22), (b6, .cells (#[.slice s.1 (k * 16) s.2.1]) 30), (b4, .cells (BV nonce) 173), (b3, .cells (#[Ptr t 0]) 77)] ++ (s.2.2 ++ [])) w) <| have hS := hS.drew; jx hS fun jj => dx 0 rfl (by kernel_rfl) (fun w hS => lo 5 sc241 hS rfl rfl rfl rfl rfl rr) jj <| dx 1 rfl (by kernel_rfl) (fun w hS => a_all un22 ⟨_, sz5⟩ rfl rfl rfl rr) jj <| dx 2 rfl (by kernel_rfl) (fun w hS => la 0 ag22 hS rfl rfl rfl rfl (BV_size _) rr) jj ?_
     refine dl 3 rfl (by kernel_rfl) <| cl cf150 rfl rfl rfl rfl rfl (sp_open_Decrypt_1 (some ⟨b12, 0, none⟩) 16 16 ((deB key nonce bs k).toList) (deB key nonce bs k) (deC key nonce bs k) _ _ _ _ s.1 (k * 16) s.2.1 (deT key nonce bs k) s.2.2 _ Vector.length_toList (by omega) (Cel.bv (hS.get 0 rfl)) (hS.get 8 rfl) (hS.get 7 rfl) hO (fun p hp => (hS.own p (by simp [hp])).2) (St.nd2 (A := [(b12, .cells (BV (deB key nonce bs k)) 22), (b11, .cells (BV (blk bs k)) 22), (lp, .loop { r with state := .busy }), (D, .deferred (some [])), (b23, .cells (#[(.slice a n cap)]) 30), (b9, .cells (#[.func (.func 150) #[] #[Ptr b6 0, Ptr b7 0]]) 241), (b8, .cells (BV (crO key nonce (k + 1))) 22), (b7, .cells (BV (deC key nonce bs k)) 22), (b6, .cells (#[.slice s.1 (k * 16) s.2.1]) 30), (b4, .cells (BV nonce) 173), (b3, .cells (#[Ptr t 0]) 77)]) (R := []) (i := 8) (j := 7) hS rfl rfl)) ?_
     rintro _ w ⟨a42, c42, X42, ⟨v42, rfl⟩, hO42, hS1⟩
     refine ⟨_, O, ?_⟩
     have hS : St w0 [] ([(b12, .cells (BV (deB key nonce bs k)) 22), (b11, .cells (BV (blk bs k)) 22), (lp, .loop { r with state := .busy }), (D, .deferred (some [])), (b23, .cells (#[(.slice a n cap)]) 30), (b9, .cells (#[.func (.func 150) #[] #[Ptr b6 0, Ptr b7 0]]) 241), (b8, .cells (BV (crO key nonce (k + 1))) 22), (b7, .cells (BV (xorV (deC key nonce bs k) (deB key nonce bs k))) 22), (b6, .cells (#[.slice a42 ((k * 16) + 16) c42]) 30), (b4, .cells (BV nonce) 173), (b3, .cells (#[Ptr t 0]) 77)] ++ (X42 ++ [])) w := St.call_out2 (A := [(b12, .cells (BV (deB key nonce bs k)) 22), (b11, .cells (BV (blk bs k)) 22), (lp, .loop { r with state := .busy }), (D, .deferred (some [])), (b23, .cells (#[(.slice a n cap)]) 30), (b9, .cells (#[.func (.func 150) #[] #[Ptr b6 0, Ptr b7 0]]) 241), (b8, .cells (BV (crO key nonce (k + 1))) 22), (b7, .cells (BV (deC key nonce bs k)) 22), (b6, .cells (#[.slice s.1 (k * 16) s.2.1]) 30), (b4, .cells (BV nonce) 173), (b3, .cells (#[Ptr t 0]) 77)]) (A2 := [(b12, .cells (BV (deB key nonce bs k)) 22), (b11, .cells (BV (blk bs k)) 22), (lp, .loop { r with state := .busy }), (D, .deferred (some [])), (b23, .cells (#[(.slice a n cap)]) 30), (b9, .cells (#[.func (.func 150) #[] #[Ptr b6 0, Ptr b7 0]]) 241), (b8, .cells (BV (crO key nonce (k + 1))) 22), (b7, .cells (BV (xorV (deC key nonce bs k) (deB key nonce bs k))) 22), (b6, .cells (#[.slice a42 ((k * 16) + 16) c42]) 30), (b4, .cells (BV nonce) 173), (b3, .cells (#[Ptr t 0]) 77)]) (i := 8) (j := 7) hS rfl rfl rfl rfl rfl hS1
     refine ly O<|de (by kernel_rfl)<|q_block_norm ?_
     refine end_q 2 hS O hr hp (fun w hS =>?_)
     have e16 : k * 16 + 16 = (k + 1) * 16 := by omega
     rw [e16] at hS hO42
     exact ⟨rfl, _, ⟨(a42, c42, X42), hO42, rfl⟩, hS.tl.tl⟩
   ·refine ala zr22 hS O O fun b12 w hb12 hS =>lx hS.tl fun jj =>?_
    refine dl 5 O (by kernel_rfl)<|cv cf143 hS O O O O O (sp_block_Xor ((blk bs k)) ((crO key nonce (k + 1))) _) fun w hS =>lx hS.tl fun jj =>?_
    refine dl 6 O (by kernel_rfl)<|cv cf151 hS O O O O O (sp_fast_Cipher_Decrypt c _ key ((xorV (blk bs k) (crO key nonce (k + 1)))) _ (hS.old hC List.not_mem_nil)) fun w hS =>lx hS.tl fun jj =>?_
    refine dl 7 O (by kernel_rfl)<|cv (v := .agg (BV (deB key nonce bs k))) cf143 hS O O O O O (sp_block_Xor ((crO key nonce (k + 1))) ((dec key (xorV (blk bs k) (crO key nonce (k + 1))))) _) fun w hS =>lx hS.tl fun jj =>?_
    refine dl 9 rfl (by kernel_rfl) <| sa 0 ag22 hS rfl rfl rfl (BV_one _) rfl (BV_size _) (BV_size _) fun w hS => ly rfl <| de (by kernel_rfl) <| wqi_then <| wci_draw mo (by kernel_rfl) 3 (fun w => St w0 [] ([(b12, .cells (BV (deB key nonce bs k)) 22), (b11, .cells (BV (blk bs k)) 22), (lp, .loop { r with state := .busy }), (D, .deferred (some [])), (b23, .cells (#[(.slice a n cap)]) 30), (b9, .cells (#[.func (.func 150) #[] #[Ptr b6 0, Ptr b7 0]]) 241), (b8, .cells (BV (crO key nonce (k + 1))) 22), (b7, .cells (BV (deC key nonce bs k)) 22), (b6, .cells (#[.slice s.1 (k * 16) s.2.1]) 30), (b4, .cells (BV nonce) 173), (b3, .cells (#[Ptr t 0]) 77)] ++ (s.2.2 ++ [])) w) <| have hS := hS.drew; jx hS fun jj => dx 0 rfl (by kernel_rfl) (fun w hS => lo 5 sc241 hS rfl rfl rfl rfl rfl rr) jj <| dx 1 rfl (by kernel_rfl) (fun w hS => a_all un22 ⟨_, sz5⟩ rfl rfl rfl rr) jj <| dx 2 rfl (by kernel_rfl) (fun w hS => la 0 ag22 hS rfl rfl rfl rfl (BV_size _) rr) jj ?_
    refine dl 3 rfl (by kernel_rfl) <| cl cf150 rfl rfl rfl rfl rfl (sp_open_Decrypt_1 (some ⟨b12, 0, none⟩) 16 16 ((deB key nonce bs k).toList) (deB key nonce bs k) (deC key nonce bs k) _ _ _ _ s.1 (k * 16) s.2.1 (deT key nonce bs k) s.2.2 _ Vector.length_toList (by omega) (Cel.bv (hS.get 0 rfl)) (hS.get 8 rfl) (hS.get 7 rfl) hO (fun p hp => (hS.own p (by simp [hp])).2) (St.nd2 (A := [(b12, .cells (BV (deB key nonce bs k)) 22), (b11, .cells (BV (blk bs k)) 22), (lp, .loop { r with state := .busy }), (D, .deferred (some [])), (b23, .cells (#[(.slice a n cap)]) 30), (b9, .cells (#[.func (.func 150) #[] #[Ptr b6 0, Ptr b7 0]]) 241), (b8, .cells (BV (crO key nonce (k + 1))) 22), (b7, .cells (BV (deC key nonce bs k)) 22), (b6, .cells (#[.slice s.1 (k * 16) s.2.1]) 30), (b4, .cells (BV nonce) 173), (b3, .cells (#[Ptr t 0]) 77)]) (R := []) (i := 8) (j := 7) hS rfl rfl)) ?_
    rintro _ w ⟨a42, c42, X42, ⟨v42, rfl⟩, hO42, hS1⟩
    refine ⟨_, O, ?_⟩
    have hS : St w0 [] ([(b12, .cells (BV (deB key nonce bs k)) 22), (b11, .cells (BV (blk bs k)) 22), (lp, .loop { r with state := .busy }), (D, .deferred (some [])), (b23, .cells (#[(.slice a n cap)]) 30), (b9, .cells (#[.func (.func 150) #[] #[Ptr b6 0, Ptr b7 0]]) 241), (b8, .cells (BV (crO key nonce (k + 1))) 22), (b7, .cells (BV (xorV (deC key nonce bs k) (deB key nonce bs k))) 22), (b6, .cells (#[.slice a42 ((k * 16) + 16) c42]) 30), (b4, .cells (BV nonce) 173), (b3, .cells (#[Ptr t 0]) 77)] ++ (X42 ++ [])) w := St.call_out2 (A := [(b12, .cells (BV (deB key nonce bs k)) 22), (b11, .cells (BV (blk bs k)) 22), (lp, .loop { r with state := .busy }), (D, .deferred (some [])), (b23, .cells (#[(.slice a n cap)]) 30), (b9, .cells (#[.func (.func 150) #[] #[Ptr b6 0, Ptr b7 0]]) 241), (b8, .cells (BV (crO key nonce (k + 1))) 22), (b7, .cells (BV (deC key nonce bs k)) 22), (b6, .cells (#[.slice s.1 (k * 16) s.2.1]) 30), (b4, .cells (BV nonce) 173), (b3, .cells (#[Ptr t 0]) 77)]) (A2 := [(b12, .cells (BV (deB key nonce bs k)) 22), (b11, .cells (BV (blk bs k)) 22), (lp, .loop { r with state := .busy }), (D, .deferred (some [])), (b23, .cells (#[(.slice a n cap)]) 30), (b9, .cells (#[.func (.func 150) #[] #[Ptr b6 0, Ptr b7 0]]) 241), (b8, .cells (BV (crO key nonce (k + 1))) 22), (b7, .cells (BV (xorV (deC key nonce bs k) (deB key nonce bs k))) 22), (b6, .cells (#[.slice a42 ((k * 16) + 16) c42]) 30), (b4, .cells (BV nonce) 173), (b3, .cells (#[Ptr t 0]) 77)]) (i := 8) (j := 7) hS rfl rfl rfl rfl rfl hS1
    refine ly O<|de (by kernel_rfl)<|q_block_norm ?_
    refine end_q 2 hS O hr hp (fun w hS =>?_)
    have e16 : k * 16 + 16 = (k + 1) * 16 := by omega
    rw [e16] at hS hO42
    exact ⟨rfl, _, ⟨(a42, c42, X42), hO42, rfl⟩, hS.tl.tl⟩
  ·refine ala zr22 hS O O fun b12 w hb12 hS =>lx hS.tl fun jj =>?_
   refine dl 2 O (by kernel_rfl)<|cv cf144 hS O O O O O (sp_table_Table_Cipher t c key _ (hT.st hS)) fun w hS =>lx hS.tl fun jj =>?_
   refine dl 5 O (by kernel_rfl)<|cv cf143 hS O O O O O (sp_block_Xor ((blk bs k)) ((crO key nonce (k + 1))) _) fun w hS =>lx hS.tl fun jj =>?_
   refine dl 6 O (by kernel_rfl)<|cv cf151 hS O O O O O (sp_fast_Cipher_Decrypt c _ key ((xorV (blk bs k) (crO key nonce (k + 1)))) _ (hS.old hC List.not_mem_nil)) fun w hS =>lx hS.tl fun jj =>?_
   refine dl 7 O (by kernel_rfl)<|cv (v := .agg (BV (deB key nonce bs k))) cf143 hS O O O O O (sp_block_Xor ((crO key nonce (k + 1))) ((dec key (xorV (blk bs k) (crO key nonce (k + 1))))) _) fun w hS =>lx hS.tl fun jj =>?_
   refine dl 9 rfl (by kernel_rfl) <| sa 0 ag22 hS rfl rfl rfl (BV_one _) rfl (BV_size _) (BV_size _) fun w hS => ly rfl <| de (by kernel_rfl) <| wqi_then <| wci_draw mo (by kernel_rfl) 3 (fun w => St w0 [] ([(b12, .cells (BV (deB key nonce bs k)) 22), (b11, .cells (BV (blk bs k)) 22), (lp, .loop { r with state := .busy }), (D, .deferred (some [])), (b23, .cells (#[(.slice a n cap)]) 30), (b9, .cells (#[.func (.func 150) #[] #[Ptr b6 0, Ptr b7 0]]) 241), (b8, .cells (BV (crO key nonce (k + 1))) 22), (b7, .cells (BV (deC key nonce bs k)) 22), (b6, .cells (#[.slice s.1 (k * 16) s.2.1]) 30), (b4, .cells (BV nonce) 173), (b3, .cells (#[Ptr t 0]) 77)] ++ (s.2.2 ++ [])) w) <| have hS := hS.drew; jx hS fun jj => dx 0 rfl (by kernel_rfl) (fun w hS => lo 5 sc241 hS rfl rfl rfl rfl rfl rr) jj <| dx 1 rfl (by kernel_rfl) (fun w hS => a_all un22 ⟨_, sz5⟩ rfl rfl rfl rr) jj <| dx 2 rfl (by kernel_rfl) (fun w hS => la 0 ag22 hS rfl rfl rfl rfl (BV_size _) rr) jj ?_
   refine dl 3 rfl (by kernel_rfl) <| cl cf150 rfl rfl rfl rfl rfl (sp_open_Decrypt_1 (some ⟨b12, 0, none⟩) 16 16 ((deB key nonce bs k).toList) (deB key nonce bs k) (deC key nonce bs k) _ _ _ _ s.1 (k * 16) s.2.1 (deT key nonce bs k) s.2.2 _ Vector.length_toList (by omega) (Cel.bv (hS.get 0 rfl)) (hS.get 8 rfl) (hS.get 7 rfl) hO (fun p hp => (hS.own p (by simp [hp])).2) (St.nd2 (A := [(b12, .cells (BV (deB key nonce bs k)) 22), (b11, .cells (BV (blk bs k)) 22), (lp, .loop { r with state := .busy }), (D, .deferred (some [])), (b23, .cells (#[(.slice a n cap)]) 30), (b9, .cells (#[.func (.func 150) #[] #[Ptr b6 0, Ptr b7 0]]) 241), (b8, .cells (BV (crO key nonce (k + 1))) 22), (b7, .cells (BV (deC key nonce bs k)) 22), (b6, .cells (#[.slice s.1 (k * 16) s.2.1]) 30), (b4, .cells (BV nonce) 173), (b3, .cells (#[Ptr t 0]) 77)]) (R := []) (i := 8) (j := 7) hS rfl rfl)) ?_
   rintro _ w ⟨a42, c42, X42, ⟨v42, rfl⟩, hO42, hS1⟩
   refine ⟨_, O, ?_⟩
   have hS : St w0 [] ([(b12, .cells (BV (deB key nonce bs k)) 22), (b11, .cells (BV (blk bs k)) 22), (lp, .loop { r with state := .busy }), (D, .deferred (some [])), (b23, .cells (#[(.slice a n cap)]) 30), (b9, .cells (#[.func (.func 150) #[] #[Ptr b6 0, Ptr b7 0]]) 241), (b8, .cells (BV (crO key nonce (k + 1))) 22), (b7, .cells (BV (xorV (deC key nonce bs k) (deB key nonce bs k))) 22), (b6, .cells (#[.slice a42 ((k * 16) + 16) c42]) 30), (b4, .cells (BV nonce) 173), (b3, .cells (#[Ptr t 0]) 77)] ++ (X42 ++ [])) w := St.call_out2 (A := [(b12, .cells (BV (deB key nonce bs k)) 22), (b11, .cells (BV (blk bs k)) 22), (lp, .loop { r with state := .busy }), (D, .deferred (some [])), (b23, .cells (#[(.slice a n cap)]) 30), (b9, .cells (#[.func (.func 150) #[] #[Ptr b6 0, Ptr b7 0]]) 241), (b8, .cells (BV (crO key nonce (k + 1))) 22), (b7, .cells (BV (deC key nonce bs k)) 22), (b6, .cells (#[.slice s.1 (k * 16) s.2.1]) 30), (b4, .cells (BV nonce) 173), (b3, .cells (#[Ptr t 0]) 77)]) (A2 := [(b12, .cells (BV (deB key nonce bs k)) 22), (b11, .cells (BV (blk bs k)) 22), (lp, .loop { r with state := .busy }), (D, .deferred (some [])), (b23, .cells (#[(.slice a n cap)]) 30), (b9, .cells (#[.func (.func 150) #[] #[Ptr b6 0, Ptr b7 0]]) 241), (b8, .cells (BV (crO key nonce (k + 1))) 22), (b7, .cells (BV (xorV (deC key nonce bs k) (deB key nonce bs k))) 22), (b6, .cells (#[.slice a42 ((k * 16) + 16) c42]) 30), (b4, .cells (BV nonce) 173), (b3, .cells (#[Ptr t 0]) 77)]) (i := 8) (j := 7) hS rfl rfl rfl rfl rfl hS1
   refine ly O<|de (by kernel_rfl)<|q_block_norm ?_
   refine end_q 2 hS O hr hp (fun w hS =>?_)
   have e16 : k * 16 + 16 = (k + 1) * 16 := by omega
   rw [e16] at hS hO42
   exact ⟨rfl, _, ⟨(a42, c42, X42), hO42, rfl⟩, hS.tl.tl⟩
 ·rintro D _ w ⟨s, hO, rfl⟩ hS
  have hS : St w0 [] ([(D, .deferred (some [])), (b23, .cells (#[(.slice a n cap)]) 30), (b9, .cells (#[.func (.func 150) #[] #[Ptr b6 0, Ptr b7 0]]) 241), (b8, .cells (BV (crO key nonce (n / 16))) 22), (b7, .cells (BV (deC key nonce bs (n / 16))) 22), (b6, .cells (#[.slice s.1 ((n / 16) * 16) s.2.1]) 30), (b4, .cells (BV nonce) 173), (b3, .cells (#[Ptr t 0]) 77)] ++ (s.2.2 ++ [])) w := hS
  refine q_block_norm<|wt<|rg<|mv O O O<|lo 5 sc30 hS O O O O O<|lens un30 O O O<|s_l ((n / 16) * 16) un30 sz5 O O O O (by omega) (by omega)<|asg O O O<|wt<|wc_seq<|rg<|mv O O O ?_
  refine lens un30 O O O<|eqi O O O O<|wt ?_
  refine wc_if O (fun hc1 =>?_) (fun hc1 =>?_)
  ·try simp only [SB] at hc1
   have hz : n / 16 * 16 = n := by omega
   refine rd mo 5 (fun w =>St w0 [] ([(D, .deferred (some [])), (b23, .cells (#[(.slice a n cap)]) 30), (b9, .cells (#[.func (.func 150) #[] #[Ptr b6 0, Ptr b7 0]]) 241), (b8, .cells (BV (crO key nonce (n / 16))) 22), (b7, .cells (BV (deC key nonce bs (n / 16))) 22), (b6, .cells (#[.slice s.1 ((n / 16) * 16) s.2.1]) 30), (b4, .cells (BV nonce) 173), (b3, .cells (#[Ptr t 0]) 77)] ++ (s.2.2 ++ [])) w) ?_
   have hS := hS.drew
   refine jx hS fun jj =>dx 0 O (by kernel_rfl) (fun w hS =>lo 5 sc30 hS O O O O O rr) jj<|dx 1 O (by kernel_rfl) (fun w hS =>la 4 ag22 hS O O O O (BV_size _) rr) jj<|dx 2 O (by kernel_rfl) (fun w hS =>la 3 ag22 hS O O O O (BV_size _) rr) jj ?_
   refine dl 3 O (by kernel_rfl)<|st 5 sz30 hS O O O O O O Nat.zero_lt_one O fun w hS =>lx hS fun jj =>?_
   refine dl 4 O (by kernel_rfl)<|sa 4 ag22 hS O O O (BV_one _) O (BV_size _) (BV_size _) fun w hS =>lx hS fun jj =>?_
   refine dl 5 O (by kernel_rfl)<|sa 3 ag22 hS O O O (BV_one _) O (BV_size _) (BV_size _) fun w hS =>ly O<|de (by kernel_rfl)<|wt<|wc_ret<|q_then_ret ?_
   refine finM3 (v := .slice s.1 ((n / 16) * 16) s.2.1) (u := .agg (BV (deC key nonce bs (n / 16)))) (x := .agg (BV (crO key nonce (n / 16)))) 0 hS O O O (fun w hS =>⟨_, O, lv_c sc30 (hS.get 5 O) O⟩) (fun w hS =>⟨_, O, lv_a ag22 (hS.get 4 O) (BV_size _)⟩) (fun w hS =>⟨_, O, lv_a ag22 (hS.get 3 O) (BV_size _)⟩) (fun w hS =>?_)
   exact ⟨_, _, rfl, ⟨_, _, dec_z1 hn hz, dec_z2 hn hz hO⟩, hS.sublist (.cons _ (.cons _ (.cons _ (.cons _ (.cons _ (.cons _ (.cons _ (.cons _ (List.sublist_append_left s.2.2 [])))))))))⟩
  ·try simp only [SB] at hc1
   have hz : ¬ n / 16 * 16 = n := by omega
   refine wc_skip<|wt<|rd mo 4 (fun w =>St w0 [] ([(D, .deferred (some [])), (b23, .cells (#[(.slice a n cap)]) 30), (b9, .cells (#[.func (.func 150) #[] #[Ptr b6 0, Ptr b7 0]]) 241), (b8, .cells (BV (crO key nonce (n / 16))) 22), (b7, .cells (BV (deC key nonce bs (n / 16))) 22), (b6, .cells (#[.slice s.1 ((n / 16) * 16) s.2.1]) 30), (b4, .cells (BV nonce) 173), (b3, .cells (#[Ptr t 0]) 77)] ++ (s.2.2 ++ [])) w) ?_
   have hS := hS.drew
   refine jx hS fun jj =>dx 0 O (by kernel_rfl) (fun w hS =>la 3 ag22 hS O O O O (BV_size _) rr) jj<|dx 1 O (by kernel_rfl) (fun w hS =>lo 7 sc77 hS O O O O O rr) jj ?_
   refine dl 2 O (by kernel_rfl)<|cv cf145 hS O O O O O (sp_table_Table_Star t c key _ (hT.st hS)) fun w hS =>lx hS fun jj =>?_
   refine dl 3 O (by kernel_rfl)<|cv cf143 hS O O O O O (sp_block_Xor ((crO key nonce (n / 16))) ((star key)) _) fun w hS =>lx hS fun jj =>?_
   refine dl 4 O (by kernel_rfl)<|sa 3 ag22 hS O O O (BV_one _) O (BV_size _) (BV_size _) fun w hS =>ly O<|de (by kernel_rfl)<|wt<|rd mo 5 (fun w =>St w0 [] ([(D, .deferred (some [])), (b23, .cells (#[(.slice a n cap)]) 30), (b9, .cells (#[.func (.func 150) #[] #[Ptr b6 0, Ptr b7 0]]) 241), (b8, .cells (BV (xorV (crO key nonce (n / 16)) (star key))) 22), (b7, .cells (BV (deC key nonce bs (n / 16))) 22), (b6, .cells (#[.slice s.1 ((n / 16) * 16) s.2.1]) 30), (b4, .cells (BV nonce) 173), (b3, .cells (#[Ptr t 0]) 77)] ++ (s.2.2 ++ [])) w) ?_
   have hS := hS.drew
   refine jx hS fun jj =>dx 0 O (by kernel_rfl) (fun w hS =>lo 7 sc77 hS O O O O O rr) jj<|dx 2 O (by kernel_rfl) (fun w hS =>la 3 ag22 hS O O O O (BV_size _) rr) jj ?_
   refine dl2 1 4 O O (by kernel_rfl) ?_ ?_
   ·refine cv cf144 hS O O O O O (sp_table_Table_Cipher t c key _ (hT.st hS)) fun w hS =>lx hS fun jj =>?_
    refine dl2 3 4 O O (by kernel_rfl) ?_ ?_
    ·refine cv cf71 hS O O O O O (sp_fast_Cipher_Encrypt c _ key ((xorV (crO key nonce (n / 16)) (star key))) _ (hS.old hC List.not_mem_nil)) fun w hS =>lx hS fun jj =>?_
     refine dl 4 O (by kernel_rfl)<|ala zr22 hS O O fun b14 w hb14 hS =>lx hS.tl fun jj =>?_
     refine dl 5 O (by kernel_rfl)<|sa 0 ag22 hS O O O (BV_one _) O (BV_size _) (BV_size _) fun w hS =>ly O<|de (by kernel_rfl)<|wt<|rg<|mv O O O<|a_all un22 ⟨_, sz5⟩ O O O<|cs cf152 hS O O O O O (sp_bits_Xor ((sla a ((n / 16) * 16) cap)) ((n - ((n / 16) * 16))) ((cap - ((n / 16) * 16))) (((bs).drop ((n / 16) * 16))) ((some ⟨b14, 0, none⟩)) 16 16 (((enc key (xorV (crO key nonce (n / 16)) (star key))).toList)) _ (by first | rfl | omega | (simp; omega) | (simp; done)) (by omega) ((hc.st hS).drop8 (lo := (n / 16) * 16) (cap := cap) (by first | omega | (simp; omega) | simp)) Vector.length_toList (by omega) (Cel.bv (hS.get 0 O))) ?_
     rintro _ _ w ⟨q63, rfl, rfl⟩ hS
     refine asg O O O<|wt<|rg<|mv O O O<|cv cf146 hS O O O O O (sp_block_Pad ((some ⟨q63, 0, none⟩)) ((min (n - ((n / 16) * 16)) 16)) ((min (n - ((n / 16) * 16)) 16)) ((xorb ((bs).drop ((n / 16) * 16)) ((enc key (xorV (crO key nonce (n / 16)) (star key))).toList))) _ (by rw [xorb_len]; (try simp) <;> omega) (by omega) (Cel.lb (l := xorb ((bs).drop ((n / 16) * 16)) ((enc key (xorV (crO key nonce (n / 16)) (star key))).toList)) (hS.get 0 O)) (by omega)) fun w hS =>mv O O O<|ext O O O O<|ext O O O O<|ala zr22 hS O O fun b16 w hb16 hS =>sa 0 ag22 hS O O O (BV_one _) O (BV_size _) (BV_size _) fun w hS =>asg O O O<|wt ?_
     refine rg<|lo 5 sc241 hS O O O O O<|mv O O O<|la 0 ag22 hS O O O O (BV_size _)<|cl cf150 O O O O O (sp_open_Decrypt_1 (some ⟨q63, 0, none⟩) (min (n - ((n / 16) * 16)) 16) (min (n - ((n / 16) * 16)) 16) (xorb ((bs).drop ((n / 16) * 16)) ((enc key (xorV (crO key nonce (n / 16)) (star key))).toList)) (padV (xorb ((bs).drop ((n / 16) * 16)) ((enc key (xorV (crO key nonce (n / 16)) (star key))).toList))) (deC key nonce bs (n / 16)) _ _ _ _ s.1 ((n / 16) * 16) s.2.1 (deT key nonce bs (n / 16)) s.2.2 _ (by rw [xorb_len]; (try simp) <;> omega) (by omega) (Cel.lb (l := xorb ((bs).drop ((n / 16) * 16)) ((enc key (xorV (crO key nonce (n / 16)) (star key))).toList)) (hS.get 1 O)) (hS.get 8 O) (hS.get 7 O) hO (fun p hp =>(hS.own p (by simp [hp])).2) (St.nd2 (A := [(b16, .cells (BV (padV (xorb ((bs).drop ((n / 16) * 16)) ((enc key (xorV (crO key nonce (n / 16)) (star key))).toList)))) 22), (q63, .cells (LB (xorb ((bs).drop ((n / 16) * 16)) ((enc key (xorV (crO key nonce (n / 16)) (star key))).toList))) 5), (b14, .cells (BV (enc key (xorV (crO key nonce (n / 16)) (star key)))) 22), (D, .deferred (some [])), (b23, .cells (#[(.slice a n cap)]) 30), (b9, .cells (#[.func (.func 150) #[] #[Ptr b6 0, Ptr b7 0]]) 241), (b8, .cells (BV (xorV (crO key nonce (n / 16)) (star key))) 22), (b7, .cells (BV (deC key nonce bs (n / 16))) 22), (b6, .cells (#[.slice s.1 ((n / 16) * 16) s.2.1]) 30), (b4, .cells (BV nonce) 173), (b3, .cells (#[Ptr t 0]) 77)]) (R := []) (i := 8) (j := 7) hS O O)) ?_
     rintro _ w ⟨a72, c72, X72, ⟨v72, rfl⟩, hO72, hS1⟩
     refine ⟨_, O, ?_⟩
     have hS : St w0 [] ([(b16, .cells (BV (padV (xorb ((bs).drop ((n / 16) * 16)) ((enc key (xorV (crO key nonce (n / 16)) (star key))).toList)))) 22), (q63, .cells (LB (xorb ((bs).drop ((n / 16) * 16)) ((enc key (xorV (crO key nonce (n / 16)) (star key))).toList))) 5), (b14, .cells (BV (enc key (xorV (crO key nonce (n / 16)) (star key)))) 22), (D, .deferred (some [])), (b23, .cells (#[(.slice a n cap)]) 30), (b9, .cells (#[.func (.func 150) #[] #[Ptr b6 0, Ptr b7 0]]) 241), (b8, .cells (BV (xorV (crO key nonce (n / 16)) (star key))) 22), (b7, .cells (BV (xorV (deC key nonce bs (n / 16)) (padV (xorb ((bs).drop ((n / 16) * 16)) ((enc key (xorV (crO key nonce (n / 16)) (star key))).toList))))) 22), (b6, .cells (#[.slice a72 (((n / 16) * 16) + (min (n - ((n / 16) * 16)) 16)) c72]) 30), (b4, .cells (BV nonce) 173), (b3, .cells (#[Ptr t 0]) 77)] ++ (X72 ++ [])) w := St.call_out2 (A := [(b16, .cells (BV (padV (xorb ((bs).drop ((n / 16) * 16)) ((enc key (xorV (crO key nonce (n / 16)) (star key))).toList)))) 22), (q63, .cells (LB (xorb ((bs).drop ((n / 16) * 16)) ((enc key (xorV (crO key nonce (n / 16)) (star key))).toList))) 5), (b14, .cells (BV (enc key (xorV (crO key nonce (n / 16)) (star key)))) 22), (D, .deferred (some [])), (b23, .cells (#[(.slice a n cap)]) 30), (b9, .cells (#[.func (.func 150) #[] #[Ptr b6 0, Ptr b7 0]]) 241), (b8, .cells (BV (xorV (crO key nonce (n / 16)) (star key))) 22), (b7, .cells (BV (deC key nonce bs (n / 16))) 22), (b6, .cells (#[.slice s.1 ((n / 16) * 16) s.2.1]) 30), (b4, .cells (BV nonce) 173), (b3, .cells (#[Ptr t 0]) 77)]) (A2 := [(b16, .cells (BV (padV (xorb ((bs).drop ((n / 16) * 16)) ((enc key (xorV (crO key nonce (n / 16)) (star key))).toList)))) 22), (q63, .cells (LB (xorb ((bs).drop ((n / 16) * 16)) ((enc key (xorV (crO key nonce (n / 16)) (star key))).toList))) 5), (b14, .cells (BV (enc key (xorV (crO key nonce (n / 16)) (star key)))) 22), (D, .deferred (some [])), (b23, .cells (#[(.slice a n cap)]) 30), (b9, .cells (#[.func (.func 150) #[] #[Ptr b6 0, Ptr b7 0]]) 241), (b8, .cells (BV (xorV (crO key nonce (n / 16)) (star key))) 22), (b7, .cells (BV (xorV (deC key nonce bs (n / 16)) (padV (xorb ((bs).drop ((n / 16) * 16)) ((enc key (xorV (crO key nonce (n / 16)) (star key))).toList))))) 22), (b6, .cells (#[.slice a72 (((n / 16) * 16) + (min (n - ((n / 16) * 16)) 16)) c72]) 30), (b4, .cells (BV nonce) 173), (b3, .cells (#[Ptr t 0]) 77)]) (i := 8) (j := 7) hS rfl rfl rfl rfl rfl hS1
     refine wt<|rd mo 5 (fun w =>St w0 [] ([(b16, .cells (BV (padV (xorb ((bs).drop ((n / 16) * 16)) ((enc key (xorV (crO key nonce (n / 16)) (star key))).toList)))) 22), (q63, .cells (LB (xorb ((bs).drop ((n / 16) * 16)) ((enc key (xorV (crO key nonce (n / 16)) (star key))).toList))) 5), (b14, .cells (BV (enc key (xorV (crO key nonce (n / 16)) (star key)))) 22), (D, .deferred (some [])), (b23, .cells (#[(.slice a n cap)]) 30), (b9, .cells (#[.func (.func 150) #[] #[Ptr b6 0, Ptr b7 0]]) 241), (b8, .cells (BV (xorV (crO key nonce (n / 16)) (star key))) 22), (b7, .cells (BV (xorV (deC key nonce bs (n / 16)) (padV (xorb ((bs).drop ((n / 16) * 16)) ((enc key (xorV (crO key nonce (n / 16)) (star key))).toList))))) 22), (b6, .cells (#[.slice a72 (((n / 16) * 16) + (min (n - ((n / 16) * 16)) 16)) c72]) 30), (b4, .cells (BV nonce) 173), (b3, .cells (#[Ptr t 0]) 77)] ++ (X72 ++ [])) w) ?_
     have hS := hS.drew
     refine jx hS fun jj =>dx 0 O (by kernel_rfl) (fun w hS =>lo 8 sc30 hS O O O O O rr) jj<|dx 1 O (by kernel_rfl) (fun w hS =>la 7 ag22 hS O O O O (BV_size _) rr) jj<|dx 2 O (by kernel_rfl) (fun w hS =>la 6 ag22 hS O O O O (BV_size _) rr) jj ?_
     refine dl 3 O (by kernel_rfl)<|st 8 sz30 hS O O O O O O Nat.zero_lt_one O fun w hS =>lx hS fun jj =>?_
     refine dl 4 O (by kernel_rfl)<|sa 7 ag22 hS O O O (BV_one _) O (BV_size _) (BV_size _) fun w hS =>lx hS fun jj =>?_
     refine dl 5 O (by kernel_rfl)<|sa 6 ag22 hS O O O (BV_one _) O (BV_size _) (BV_size _) fun w hS =>ly O<|de (by kernel_rfl)<|wt<|wc_ret ?_
     refine finM3 (v := .slice a72 (((n / 16) * 16) + (min (n - ((n / 16) * 16)) 16)) c72) (u := .agg (BV (xorV (deC key nonce bs (n / 16)) (padV (xorb ((bs).drop ((n / 16) * 16)) ((enc key (xorV (crO key nonce (n / 16)) (star key))).toList)))))) (x := .agg (BV (xorV (crO key nonce (n / 16)) (star key)))) 3 hS O O O (fun w hS =>⟨_, O, lv_c sc30 (hS.get 8 O) O⟩) (fun w hS =>⟨_, O, lv_a ag22 (hS.get 7 O) (BV_size _)⟩) (fun w hS =>⟨_, O, lv_a ag22 (hS.get 6 O) (BV_size _)⟩) (fun w hS =>?_)
     exact ⟨_, _, rfl, ⟨_, _, dec_r1 hn hz _ (by omega), dec_r2 hn hz _ (by omega) hO72⟩, hS.sublist (.cons _ (.cons _ (.cons _ (.cons _ (.cons _ (.cons _ (.cons _ (.cons _ (.cons _ (.cons _ (.cons _ (List.sublist_append_left X72 []))))))))))))⟩
    ·refine ala zr22 hS O O fun b14 w hb14 hS =>lx hS.tl fun jj =>?_
     refine dl 3 O (by kernel_rfl)<|cv cf71 hS O O O O O (sp_fast_Cipher_Encrypt c _ key ((xorV (crO key nonce (n / 16)) (star key))) _ (hS.old hC List.not_mem_nil)) fun w hS =>lx hS.tl fun jj =>?_
     refine dl 5 O (by kernel_rfl)<|sa 0 ag22 hS O O O (BV_one _) O (BV_size _) (BV_size _) fun w hS =>ly O<|de (by kernel_rfl)<|wt<|rg<|mv O O O<|a_all un22 ⟨_, sz5⟩ O O O<|cs cf152 hS O O O O O (sp_bits_Xor ((sla a ((n / 16) * 16) cap)) ((n - ((n / 16) * 16))) ((cap - ((n / 16) * 16))) (((bs).drop ((n / 16) * 16))) ((some ⟨b14, 0, none⟩)) 16 16 (((enc key (xorV (crO key nonce (n / 16)) (star key))).toList)) _ (by first | rfl | omega | (simp; omega) | (simp; done)) (by omega) ((hc.st hS).drop8 (lo := (n / 16) * 16) (cap := cap) (by first | omega | (simp; omega) | simp)) Vector.length_toList (by omega) (Cel.bv (hS.get 0 O))) ?_
     rintro _ _ w ⟨q63, rfl, rfl⟩ hS
     refine asg O O O<|wt<|rg<|mv O O O<|cv cf146 hS O O O O O (sp_block_Pad ((some ⟨q63, 0, none⟩)) ((min (n - ((n / 16) * 16)) 16)) ((min (n - ((n / 16) * 16)) 16)) ((xorb ((bs).drop ((n / 16) * 16)) ((enc key (xorV (crO key nonce (n / 16)) (star key))).toList))) _ (by rw [xorb_len]; (try simp) <;> omega) (by omega) (Cel.lb (l := xorb ((bs).drop ((n / 16) * 16)) ((enc key (xorV (crO key nonce (n / 16)) (star key))).toList)) (hS.get 0 O)) (by omega)) fun w hS =>mv O O O<|ext O O O O<|ext O O O O<|ala zr22 hS O O fun b16 w hb16 hS =>sa 0 ag22 hS O O O (BV_one _) O (BV_size _) (BV_size _) fun w hS =>asg O O O<|wt ?_
     refine rg<|lo 5 sc241 hS O O O O O<|mv O O O<|la 0 ag22 hS O O O O (BV_size _)<|cl cf150 O O O O O (sp_open_Decrypt_1 (some ⟨q63, 0, none⟩) (min (n - ((n / 16) * 16)) 16) (min (n - ((n / 16) * 16)) 16) (xorb ((bs).drop ((n / 16) * 16)) ((enc key (xorV (crO key nonce (n / 16)) (star key))).toList)) (padV (xorb ((bs).drop ((n / 16) * 16)) ((enc key (xorV (crO key nonce (n / 16)) (star key))).toList))) (deC key nonce bs (n / 16)) _ _ _ _ s.1 ((n / 16) * 16) s.2.1 (deT key nonce bs (n / 16)) s.2.2 _ (by rw [xorb_len]; (try simp) <;> omega) (by omega) (Cel.lb (l := xorb ((bs).drop ((n / 16) * 16)) ((enc key (xorV (crO key nonce (n / 16)) (star key))).toList)) (hS.get 1 O)) (hS.get 8 O) (hS.get 7 O) hO (fun p hp =>(hS.own p (by simp [hp])).2) (St.nd2 (A := [(b16, .cells (BV (padV (xorb ((bs).drop ((n / 16) * 16)) ((enc key (xorV (crO key nonce (n / 16)) (star key))).toList)))) 22), (q63, .cells (LB (xorb ((bs).drop ((n / 16) * 16)) ((enc key (xorV (crO key nonce (n / 16)) (star key))).toList))) 5), (b14, .cells (BV (enc key (xorV (crO key nonce (n / 16)) (star key)))) 22), (D, .deferred (some [])), (b23, .cells (#[(.slice a n cap)]) 30), (b9, .cells (#[.func (.func 150) #[] #[Ptr b6 0, Ptr b7 0]]) 241), (b8, .cells (BV (xorV (crO key nonce (n / 16)) (star key))) 22), (b7, .cells (BV (deC key nonce bs (n / 16))) 22), (b6, .cells (#[.slice s.1 ((n / 16) * 16) s.2.1]) 30), (b4, .cells (BV nonce) 173), (b3, .cells (#[Ptr t 0]) 77)]) (R := []) (i := 8) (j := 7) hS O O)) ?_
     rintro _ w ⟨a72, c72, X72, ⟨v72, rfl⟩, hO72, hS1⟩
     refine ⟨_, O, ?_⟩
     have hS : St w0 [] ([(b16, .cells (BV (padV (xorb ((bs).drop ((n / 16) * 16)) ((enc key (xorV (crO key nonce (n / 16)) (star key))).toList)))) 22), (q63, .cells (LB (xorb ((bs).drop ((n / 16) * 16)) ((enc key (xorV (crO key nonce (n / 16)) (star key))).toList))) 5), (b14, .cells (BV (enc key (xorV (crO key nonce (n / 16)) (star key)))) 22), (D, .deferred (some [])), (b23, .cells (#[(.slice a n cap)]) 30), (b9, .cells (#[.func (.func 150) #[] #[Ptr b6 0, Ptr b7 0]]) 241), (b8, .cells (BV (xorV (crO key nonce (n / 16)) (star key))) 22), (b7, .cells (BV (xorV (deC key nonce bs (n / 16)) (padV (xorb ((bs).drop ((n / 16) * 16)) ((enc key (xorV (crO key nonce (n / 16)) (star key))).toList))))) 22), (b6, .cells (#[.slice a72 (((n / 16) * 16) + (min (n - ((n / 16) * 16)) 16)) c72]) 30), (b4, .cells (BV nonce) 173), (b3, .cells (#[Ptr t 0]) 77)] ++ (X72 ++ [])) w := St.call_out2 (A := [(b16, .cells (BV (padV (xorb ((bs).drop ((n / 16) * 16)) ((enc key (xorV (crO key nonce (n / 16)) (star key))).toList)))) 22), (q63, .cells (LB (xorb ((bs).drop ((n / 16) * 16)) ((enc key (xorV (crO key nonce (n / 16)) (star key))).toList))) 5), (b14, .cells (BV (enc key (xorV (crO key nonce (n / 16)) (star key)))) 22), (D, .deferred (some [])), (b23, .cells (#[(.slice a n cap)]) 30), (b9, .cells (#[.func (.func 150) #[] #[Ptr b6 0, Ptr b7 0]]) 241), (b8, .cells (BV (xorV (crO key nonce (n / 16)) (star key))) 22), (b7, .cells (BV (deC key nonce bs (n / 16))) 22), (b6, .cells (#[.slice s.1 ((n / 16) * 16) s.2.1]) 30), (b4, .cells (BV nonce) 173), (b3, .cells (#[Ptr t 0]) 77)]) (A2 := [(b16, .cells (BV (padV (xorb ((bs).drop ((n / 16) * 16)) ((enc key (xorV (crO key nonce (n / 16)) (star key))).toList)))) 22), (q63, .cells (LB (xorb ((bs).drop ((n / 16) * 16)) ((enc key (xorV (crO key nonce (n / 16)) (star key))).toList))) 5), (b14, .cells (BV (enc key (xorV (crO key nonce (n / 16)) (star key)))) 22), (D, .deferred (some [])), (b23, .cells (#[(.slice a n cap)]) 30), (b9, .cells (#[.func (.func 150) #[] #[Ptr b6 0, Ptr b7 0]]) 241), (b8, .cells (BV (xorV (crO key nonce (n / 16)) (star key))) 22), (b7, .cells (BV (xorV (deC key nonce bs (n / 16)) (padV (xorb ((bs).drop ((n / 16) * 16)) ((enc key (xorV (crO key nonce (n / 16)) (star key))).toList))))) 22), (b6, .cells (#[.slice a72 (((n / 16) * 16) + (min (n - ((n / 16) * 16)) 16)) c72]) 30), (b4, .cells (BV nonce) 173), (b3, .cells (#[Ptr t 0]) 77)]) (i := 8) (j := 7) hS rfl rfl rfl rfl rfl hS1
     refine wt<|rd mo 5 (fun w =>St w0 [] ([(b16, .cells (BV (padV (xorb ((bs).drop ((n / 16) * 16)) ((enc key (xorV (crO key nonce (n / 16)) (star key))).toList)))) 22), (q63, .cells (LB (xorb ((bs).drop ((n / 16) * 16)) ((enc key (xorV (crO key nonce (n / 16)) (star key))).toList))) 5), (b14, .cells (BV (enc key (xorV (crO key nonce (n / 16)) (star key)))) 22), (D, .deferred (some [])), (b23, .cells (#[(.slice a n cap)]) 30), (b9, .cells (#[.func (.func 150) #[] #[Ptr b6 0, Ptr b7 0]]) 241), (b8, .cells (BV (xorV (crO key nonce (n / 16)) (star key))) 22), (b7, .cells (BV (xorV (deC key nonce bs (n / 16)) (padV (xorb ((bs).drop ((n / 16) * 16)) ((enc key (xorV (crO key nonce (n / 16)) (star key))).toList))))) 22), (b6, .cells (#[.slice a72 (((n / 16) * 16) + (min (n - ((n / 16) * 16)) 16)) c72]) 30), (b4, .cells (BV nonce) 173), (b3, .cells (#[Ptr t 0]) 77)] ++ (X72 ++ [])) w) ?_
     have hS := hS.drew
     refine jx hS fun jj =>dx 0 O (by kernel_rfl) (fun w hS =>lo 8 sc30 hS O O O O O rr) jj<|dx 1 O (by kernel_rfl) (fun w hS =>la 7 ag22 hS O O O O (BV_size _) rr) jj<|dx 2 O (by kernel_rfl) (fun w hS =>la 6 ag22 hS O O O O (BV_size _) rr) jj ?_
     refine dl 3 O (by kernel_rfl)<|st 8 sz30 hS O O O O O O Nat.zero_lt_one O fun w hS =>lx hS fun jj =>?_
     refine dl 4 O (by kernel_rfl)<|sa 7 ag22 hS O O O (BV_one _) O (BV_size _) (BV_size _) fun w hS =>lx hS fun jj =>?_
     refine dl 5 O (by kernel_rfl)<|sa 6 ag22 hS O O O (BV_one _) O (BV_size _) (BV_size _) fun w hS =>ly O<|de (by kernel_rfl)<|wt<|wc_ret ?_
     refine finM3 (v := .slice a72 (((n / 16) * 16) + (min (n - ((n / 16) * 16)) 16)) c72) (u := .agg (BV (xorV (deC key nonce bs (n / 16)) (padV (xorb ((bs).drop ((n / 16) * 16)) ((enc key (xorV (crO key nonce (n / 16)) (star key))).toList)))))) (x := .agg (BV (xorV (crO key nonce (n / 16)) (star key)))) 3 hS O O O (fun w hS =>⟨_, O, lv_c sc30 (hS.get 8 O) O⟩) (fun w hS =>⟨_, O, lv_a ag22 (hS.get 7 O) (BV_size _)⟩) (fun w hS =>⟨_, O, lv_a ag22 (hS.get 6 O) (BV_size _)⟩) (fun w hS =>?_)
     exact ⟨_, _, rfl, ⟨_, _, dec_r1 hn hz _ (by omega), dec_r2 hn hz _ (by omega) hO72⟩, hS.sublist (.cons _ (.cons _ (.cons _ (.cons _ (.cons _ (.cons _ (.cons _ (.cons _ (.cons _ (.cons _ (.cons _ (List.sublist_append_left X72 []))))))))))))⟩
   ·refine ala zr22 hS O O fun b14 w hb14 hS =>lx hS.tl fun jj =>?_
    refine dl 1 O (by kernel_rfl)<|cv cf144 hS O O O O O (sp_table_Table_Cipher t c key _ (hT.st hS)) fun w hS =>lx hS.tl fun jj =>?_
    refine dl 3 O (by kernel_rfl)<|cv cf71 hS O O O O O (sp_fast_Cipher_Encrypt c _ key ((xorV (crO key nonce (n / 16)) (star key))) _ (hS.old hC List.not_mem_nil)) fun w hS =>lx hS.tl fun jj =>?_
    refine dl 5 O (by kernel_rfl)<|sa 0 ag22 hS O O O (BV_one _) O (BV_size _) (BV_size _) fun w hS =>ly O<|de (by kernel_rfl)<|wt<|rg<|mv O O O<|a_all un22 ⟨_, sz5⟩ O O O<|cs cf152 hS O O O O O (sp_bits_Xor ((sla a ((n / 16) * 16) cap)) ((n - ((n / 16) * 16))) ((cap - ((n / 16) * 16))) (((bs).drop ((n / 16) * 16))) ((some ⟨b14, 0, none⟩)) 16 16 (((enc key (xorV (crO key nonce (n / 16)) (star key))).toList)) _ (by first | rfl | omega | (simp; omega) | (simp; done)) (by omega) ((hc.st hS).drop8 (lo := (n / 16) * 16) (cap := cap) (by first | omega | (simp; omega) | simp)) Vector.length_toList (by omega) (Cel.bv (hS.get 0 O))) ?_
    rintro _ _ w ⟨q63, rfl, rfl⟩ hS
    refine asg O O O<|wt<|rg<|mv O O O<|cv cf146 hS O O O O O (sp_block_Pad ((some ⟨q63, 0, none⟩)) ((min (n - ((n / 16) * 16)) 16)) ((min (n - ((n / 16) * 16)) 16)) ((xorb ((bs).drop ((n / 16) * 16)) ((enc key (xorV (crO key nonce (n / 16)) (star key))).toList))) _ (by rw [xorb_len]; (try simp) <;> omega) (by omega) (Cel.lb (l := xorb ((bs).drop ((n / 16) * 16)) ((enc key (xorV (crO key nonce (n / 16)) (star key))).toList)) (hS.get 0 O)) (by omega)) fun w hS =>mv O O O<|ext O O O O<|ext O O O O<|ala zr22 hS O O fun b16 w hb16 hS =>sa 0 ag22 hS O O O (BV_one _) O (BV_size _) (BV_size _) fun w hS =>asg O O O<|wt ?_
    refine rg<|lo 5 sc241 hS O O O O O<|mv O O O<|la 0 ag22 hS O O O O (BV_size _)<|cl cf150 O O O O O (sp_open_Decrypt_1 (some ⟨q63, 0, none⟩) (min (n - ((n / 16) * 16)) 16) (min (n - ((n / 16) * 16)) 16) (xorb ((bs).drop ((n / 16) * 16)) ((enc key (xorV (crO key nonce (n / 16)) (star key))).toList)) (padV (xorb ((bs).drop ((n / 16) * 16)) ((enc key (xorV (crO key nonce (n / 16)) (star key))).toList))) (deC key nonce bs (n / 16)) _ _ _ _ s.1 ((n / 16) * 16) s.2.1 (deT key nonce bs (n / 16)) s.2.2 _ (by rw [xorb_len]; (try simp) <;> omega) (by omega) (Cel.lb (l := xorb ((bs).drop ((n / 16) * 16)) ((enc key (xorV (crO key nonce (n / 16)) (star key))).toList)) (hS.get 1 O)) (hS.get 8 O) (hS.get 7 O) hO (fun p hp =>(hS.own p (by simp [hp])).2) (St.nd2 (A := [(b16, .cells (BV (padV (xorb ((bs).drop ((n / 16) * 16)) ((enc key (xorV (crO key nonce (n / 16)) (star key))).toList)))) 22), (q63, .cells (LB (xorb ((bs).drop ((n / 16) * 16)) ((enc key (xorV (crO key nonce (n / 16)) (star key))).toList))) 5), (b14, .cells (BV (enc key (xorV (crO key nonce (n / 16)) (star key)))) 22), (D, .deferred (some [])), (b23, .cells (#[(.slice a n cap)]) 30), (b9, .cells (#[.func (.func 150) #[] #[Ptr b6 0, Ptr b7 0]]) 241), (b8, .cells (BV (xorV (crO key nonce (n / 16)) (star key))) 22), (b7, .cells (BV (deC key nonce bs (n / 16))) 22), (b6, .cells (#[.slice s.1 ((n / 16) * 16) s.2.1]) 30), (b4, .cells (BV nonce) 173), (b3, .cells (#[Ptr t 0]) 77)]) (R := []) (i := 8) (j := 7) hS O O)) ?_
    rintro _ w ⟨a72, c72, X72, ⟨v72, rfl⟩, hO72, hS1⟩
    refine ⟨_, O, ?_⟩
    have hS : St w0 [] ([(b16, .cells (BV (padV (xorb ((bs).drop ((n / 16) * 16)) ((enc key (xorV (crO key nonce (n / 16)) (star key))).toList)))) 22), (q63, .cells (LB (xorb ((bs).drop ((n / 16) * 16)) ((enc key (xorV (crO key nonce (n / 16)) (star key))).toList))) 5), (b14, .cells (BV (enc key (xorV (crO key nonce (n / 16)) (star key)))) 22), (D, .deferred (some [])), (b23, .cells (#[(.slice a n cap)]) 30), (b9, .cells (#[.func (.func 150) #[] #[Ptr b6 0, Ptr b7 0]]) 241), (b8, .cells (BV (xorV (crO key nonce (n / 16)) (star key))) 22), (b7, .cells (BV (xorV (deC key nonce bs (n / 16)) (padV (xorb ((bs).drop ((n / 16) * 16)) ((enc key (xorV (crO key nonce (n / 16)) (star key))).toList))))) 22), (b6, .cells (#[.slice a72 (((n / 16) * 16) + (min (n - ((n / 16) * 16)) 16)) c72]) 30), (b4, .cells (BV nonce) 173), (b3, .cells (#[Ptr t 0]) 77)] ++ (X72 ++ [])) w := St.call_out2 (A := [(b16, .cells (BV (padV (xorb ((bs).drop ((n / 16) * 16)) ((enc key (xorV (crO key nonce (n / 16)) (star key))).toList)))) 22), (q63, .cells (LB (xorb ((bs).drop ((n / 16) * 16)) ((enc key (xorV (crO key nonce (n / 16)) (star key))).toList))) 5), (b14, .cells (BV (enc key (xorV (crO key nonce (n / 16)) (star key)))) 22), (D, .deferred (some [])), (b23, .cells (#[(.slice a n cap)]) 30), (b9, .cells (#[.func (.func 150) #[] #[Ptr b6 0, Ptr b7 0]]) 241), (b8, .cells (BV (xorV (crO key nonce (n / 16)) (star key))) 22), (b7, .cells (BV (deC key nonce bs (n / 16))) 22), (b6, .cells (#[.slice s.1 ((n / 16) * 16) s.2.1]) 30), (b4, .cells (BV nonce) 173), (b3, .cells (#[Ptr t 0]) 77)]) (A2 := [(b16, .cells (BV (padV (xorb ((bs).drop ((n / 16) * 16)) ((enc key (xorV (crO key nonce (n / 16)) (star key))).toList)))) 22), (q63, .cells (LB (xorb ((bs).drop ((n / 16) * 16)) ((enc key (xorV (crO key nonce (n / 16)) (star key))).toList))) 5), (b14, .cells (BV (enc key (xorV (crO key nonce (n / 16)) (star key)))) 22), (D, .deferred (some [])), (b23, .cells (#[(.slice a n cap)]) 30), (b9, .cells (#[.func (.func 150) #[] #[Ptr b6 0, Ptr b7 0]]) 241), (b8, .cells (BV (xorV (crO key nonce (n / 16)) (star key))) 22), (b7, .cells (BV (xorV (deC key nonce bs (n / 16)) (padV (xorb ((bs).drop ((n / 16) * 16)) ((enc key (xorV (crO key nonce (n / 16)) (star key))).toList))))) 22), (b6, .cells (#[.slice a72 (((n / 16) * 16) + (min (n - ((n / 16) * 16)) 16)) c72]) 30), (b4, .cells (BV nonce) 173), (b3, .cells (#[Ptr t 0]) 77)]) (i := 8) (j := 7) hS rfl rfl rfl rfl rfl hS1
    refine wt<|rd mo 5 (fun w =>St w0 [] ([(b16, .cells (BV (padV (xorb ((bs).drop ((n / 16) * 16)) ((enc key (xorV (crO key nonce (n / 16)) (star key))).toList)))) 22), (q63, .cells (LB (xorb ((bs).drop ((n / 16) * 16)) ((enc key (xorV (crO key nonce (n / 16)) (star key))).toList))) 5), (b14, .cells (BV (enc key (xorV (crO key nonce (n / 16)) (star key)))) 22), (D, .deferred (some [])), (b23, .cells (#[(.slice a n cap)]) 30), (b9, .cells (#[.func (.func 150) #[] #[Ptr b6 0, Ptr b7 0]]) 241), (b8, .cells (BV (xorV (crO key nonce (n / 16)) (star key))) 22), (b7, .cells (BV (xorV (deC key nonce bs (n / 16)) (padV (xorb ((bs).drop ((n / 16) * 16)) ((enc key (xorV (crO key nonce (n / 16)) (star key))).toList))))) 22), (b6, .cells (#[.slice a72 (((n / 16) * 16) + (min (n - ((n / 16) * 16)) 16)) c72]) 30), (b4, .cells (BV nonce) 173), (b3, .cells (#[Ptr t 0]) 77)] ++ (X72 ++ [])) w) ?_
    have hS := hS.drew
    refine jx hS fun jj =>dx 0 O (by kernel_rfl) (fun w hS =>lo 8 sc30 hS O O O O O rr) jj<|dx 1 O (by kernel_rfl) (fun w hS =>la 7 ag22 hS O O O O (BV_size _) rr) jj<|dx 2 O (by kernel_rfl) (fun w hS =>la 6 ag22 hS O O O O (BV_size _) rr) jj ?_
    refine dl 3 O (by kernel_rfl)<|st 8 sz30 hS O O O O O O Nat.zero_lt_one O fun w hS =>lx hS fun jj =>?_
    refine dl 4 O (by kernel_rfl)<|sa 7 ag22 hS O O O (BV_one _) O (BV_size _) (BV_size _) fun w hS =>lx hS fun jj =>?_
    refine dl 5 O (by kernel_rfl)<|sa 6 ag22 hS O O O (BV_one _) O (BV_size _) (BV_size _) fun w hS =>ly O<|de (by kernel_rfl)<|wt<|wc_ret ?_
    refine finM3 (v := .slice a72 (((n / 16) * 16) + (min (n - ((n / 16) * 16)) 16)) c72) (u := .agg (BV (xorV (deC key nonce bs (n / 16)) (padV (xorb ((bs).drop ((n / 16) * 16)) ((enc key (xorV (crO key nonce (n / 16)) (star key))).toList)))))) (x := .agg (BV (xorV (crO key nonce (n / 16)) (star key)))) 3 hS O O O (fun w hS =>⟨_, O, lv_c sc30 (hS.get 8 O) O⟩) (fun w hS =>⟨_, O, lv_a ag22 (hS.get 7 O) (BV_size _)⟩) (fun w hS =>⟨_, O, lv_a ag22 (hS.get 6 O) (BV_size _)⟩) (fun w hS =>?_)
    exact ⟨_, _, rfl, ⟨_, _, dec_r1 hn hz _ (by omega), dec_r2 hn hz _ (by omega) hO72⟩, hS.sublist (.cons _ (.cons _ (.cons _ (.cons _ (.cons _ (.cons _ (.cons _ (.cons _ (.cons _ (.cons _ (.cons _ (List.sublist_append_left X72 []))))))))))))⟩
theorem sp_open_Open (t c : Nat) (key : V8 16) (nonce : V8 12) (a : Option Addr) (n cap : Nat) (bs : List UInt8) (a2 : Option Addr) (n2 cap2 : Nat) (bs2 : List UInt8) (w0 : World) (hT : TabAt w0 t c key) (hn : bs.length = n) (hN : n ≤ 1000000) (hc : Cel w0 a (c8 bs)) (hcap : n ≤ cap) (hn2 : bs2.length = n2) (hN2 : n2 ≤ 1000000) (he2 : Cel w0 a2 (c8 bs2)) (hcap2 : n2 ≤ cap2) (hG : Gl 1 w0) : Calls Tryz.prog 90 #[Ptr t 0, .agg (BV nonce), .slice a2 n2 cap2, .slice a n cap] w0 (RetS w0 (fun v X => ∃ a' n' c', v = .tuple #[.slice a' n' c', errV 33 (opnE key nonce bs2 bs)] ∧ Own 1 a' n' c' (c8 (if opnE key nonce bs2 bs = 0 then opnT key nonce bs else [])) X)) := by
 refine enter (args := [Ptr t 0, .agg (BV nonce), .slice a2 n2 cap2, .slice a n cap]) Tryz.func90 O O<|startw fun w hS =>?_
 obtain ⟨⟨T, hT1⟩, E, hC⟩ := id hT
 refine rg<|bxa hS O O O fun b5 w hb5 hS =>asg O O O<|asg O O O<|wt<|rg<|mv O O O<|lens un30 O O O<|subi (by omega) (by omega) O O O O<|asg O O O<|wt<|wc_seq ?_
 refine rg<|mv O O O<|lss O O O O<|wt ?_
 refine wc_if O (fun hc1 =>?_) (fun hc1 =>?_)
 ·try simp only [SB] at hc1
  refine rg<|mki cc33 O O O<|asg O O O<|asg O O O<|wt<|wc_ret<|q_then_ret<|fin2 (v := (.slice none 0 0)) (u := (.iface 33 (I 1))) O O O ?_
  have he : opnE key nonce bs2 bs = 1 := opnE_s hn (by omega)
  exact ⟨_, [], rfl, ⟨none, 0, 0, opn_e (by decide) he, opn_o (by decide) he⟩, hS.drop⟩
 ·try simp only [SB] at hc1
  refine wc_skip<|wt ?_
  refine sqj (fun l w =>∃ (a27 : Option Addr) (c27 : Nat) (X27 : List (Nat × Obj)) (b12 : Nat) (b13 : Nat), (Own 1 a27 ((n - 16)) c27 (c8 (decT key nonce ((bs).take (n - 16)))) X27) ∧ l = [(0, Ptr t 0), (2, .slice a2 n2 cap2), (3, .slice a n cap), (8, (.slice none 0 0)), (9, .nilIface), (10, I (((n : Nat) : Int) - 16)), (11, .slice a27 (n - 16) c27), (12, Ptr b12 0), (13, Ptr b13 0)] ∧ St w0 [] ([(b13, .cells (BV (cryO key nonce (n - 16))) 22), (b12, .cells (BV (decC key nonce ((bs).take (n - 16)))) 22), (b5, .cells (BV nonce) 173)] ++ (X27 ++ [])) w) ?_ ?_
  ·refine wc_draw mo 14 (fun w =>St w0 [] [(b5, .cells (BV nonce) 173)] w)<|have hS := hS.drew; jx hS fun jj =>dx 0 O (by kernel_rfl) (fun w hS =>mv O O O rr) jj<|dx 1 O (by kernel_rfl) (fun w hS =>la 0 ag173 hS O O O O (BV_size _) rr) jj<|dx 2 O (by kernel_rfl) (fun w hS =>mv O O O rr) jj<|dx 3 O (by kernel_rfl) (fun w hS =>mv O O O rr) jj<|dx 4 O (by kernel_rfl) (fun w hS =>s_h ((n - 16)) un30 ⟨_, sz5⟩ O O O O (by omega) (by omega) rr) jj ?_
   refine dl3 5 10 11 O O O (by kernel_rfl) ?_ ?_ ?_
   ·refine cs cf121 hS O O O O O (sp_open_Decrypt t c key nonce a ((n - 16)) cap (((bs).take (n - 16))) _ (hT.st hS) (by first | rfl | omega | (simp; omega) | (simp; done)) (by omega) ((hc.st hS).take8 (n - 16)) (by omega) (hG.st hS)) ?_
    rintro _ X27 w ⟨a27, c27, rfl, hO27⟩ hS
    have hS := St.tailin (X := X27) hS [(b5, .cells (BV nonce) 173)] [] rfl
    refine lx (St.untail (A := [(b5, .cells (BV nonce) 173)]) (X := X27) (R := []) hS) fun jj =>dx 6 O (by kernel_rfl) (fun w hS =>mv O O O rr) jj<|dx 7 O (by kernel_rfl) (fun w hS =>ext O O O O rr) jj<|dx 8 O (by kernel_rfl) (fun w hS =>ext O O O O rr) jj<|dx 9 O (by kernel_rfl) (fun w hS =>ext O O O O rr) jj ?_
    refine dl2 10 11 O O (by kernel_rfl) ?_ ?_
    ·refine ala zr22 hS O O fun b12 w hb12 hS =>lx (St.untail (A := [(b12, .cells (BV (Vector.replicate 16 0)) 22), (b5, .cells (BV nonce) 173)]) (X := X27) (R := []) hS).tl fun jj =>?_
     refine dl 11 O (by kernel_rfl)<|ala zr22 hS O O fun b13 w hb13 hS =>lx (St.untail (A := [(b13, .cells (BV (Vector.replicate 16 0)) 22), (b12, .cells (BV (Vector.replicate 16 0)) 22), (b5, .cells (BV nonce) 173)]) (X := X27) (R := []) hS).tl.tl fun jj =>dx 12 O (by kernel_rfl) (fun w hS =>asg O O O rr) jj ?_
     refine dl 13 O (by kernel_rfl)<|sa 1 ag22 hS O O O (BV_one _) O (BV_size _) (BV_size _) fun w hS =>lx (St.untail (A := [(b13, .cells (BV (Vector.replicate 16 0)) 22), (b12, .cells (BV (decC key nonce ((bs).take (n - 16)))) 22), (b5, .cells (BV nonce) 173)]) (X := X27) (R := []) hS).tl.tl fun jj =>?_
     refine dl 14 O (by kernel_rfl)<|sa 0 ag22 hS O O O (BV_one _) O (BV_size _) (BV_size _) fun w hS =>ly O<|de (by kernel_rfl) ?_
     exact mmq ⟨a27, c27, X27, b12, b13, hO27, rfl, hS⟩ ⟨rfl, rfl, rfl, rfl, rfl, rfl, rfl, rfl, rfl, trivial⟩
    ·refine ala zr22 hS O O fun b13 w hb13 hS =>lx (St.untail (A := [(b13, .cells (BV (Vector.replicate 16 0)) 22), (b5, .cells (BV nonce) 173)]) (X := X27) (R := []) hS).tl fun jj =>?_
     refine dl 10 O (by kernel_rfl)<|ala zr22 hS O O fun b12 w hb12 hS =>lx (St.untail (A := [(b12, .cells (BV (Vector.replicate 16 0)) 22), (b13, .cells (BV (Vector.replicate 16 0)) 22), (b5, .cells (BV nonce) 173)]) (X := X27) (R := []) hS).tl.tl fun jj =>dx 12 O (by kernel_rfl) (fun w hS =>asg O O O rr) jj ?_
     refine dl 13 O (by kernel_rfl)<|sa 0 ag22 hS O O O (BV_one _) O (BV_size _) (BV_size _) fun w hS =>lx (St.untail (A := [(b12, .cells (BV (decC key nonce ((bs).take (n - 16)))) 22), (b13, .cells (BV (Vector.replicate 16 0)) 22), (b5, .cells (BV nonce) 173)]) (X := X27) (R := []) hS).tl.tl fun jj =>?_
     refine dl 14 O (by kernel_rfl)<|sa 1 ag22 hS O O O (BV_one _) O (BV_size _) (BV_size _) fun w hS =>ly O<|de (by kernel_rfl) ?_
     exact mmq ⟨a27, c27, X27, b12, b13, hO27, rfl, St.prm (A := [(b12, .cells (BV (decC key nonce ((bs).take (n - 16)))) 22), (b13, .cells (BV (cryO key nonce (n - 16))) 22), (b5, .cells (BV nonce) 173)]) (B := [(b13, .cells (BV (cryO key nonce (n - 16))) 22), (b12, .cells (BV (decC key nonce ((bs).take (n - 16)))) 22), (b5, .cells (BV nonce) 173)]) (R := (X27 ++ [])) hS [1, 0, 2] (by decide) rfl⟩ ⟨rfl, rfl, rfl, rfl, rfl, rfl, rfl, rfl, rfl, trivial⟩
   ·refine ala zr22 hS O O fun b12 w hb12 hS =>lx hS.tl fun jj =>?_
    refine dl2 5 11 O O (by kernel_rfl) ?_ ?_
    ·refine cs cf121 hS O O O O O (sp_open_Decrypt t c key nonce a ((n - 16)) cap (((bs).take (n - 16))) _ (hT.st hS) (by first | rfl | omega | (simp; omega) | (simp; done)) (by omega) ((hc.st hS).take8 (n - 16)) (by omega) (hG.st hS)) ?_
     rintro _ X27 w ⟨a27, c27, rfl, hO27⟩ hS
     have hS := St.tailin (X := X27) hS [(b12, .cells (BV (Vector.replicate 16 0)) 22), (b5, .cells (BV nonce) 173)] [] rfl
     refine lx (St.untail (A := [(b12, .cells (BV (Vector.replicate 16 0)) 22), (b5, .cells (BV nonce) 173)]) (X := X27) (R := []) hS).tl fun jj =>dx 6 O (by kernel_rfl) (fun w hS =>mv O O O rr) jj<|dx 7 O (by kernel_rfl) (fun w hS =>ext O O O O rr) jj<|dx 8 O (by kernel_rfl) (fun w hS =>ext O O O O rr) jj<|dx 9 O (by kernel_rfl) (fun w hS =>ext O O O O rr) jj ?_
     refine dl 11 O (by kernel_rfl)<|ala zr22 hS O O fun b13 w hb13 hS =>lx (St.untail (A := [(b13, .cells (BV (Vector.replicate 16 0)) 22), (b12, .cells (BV (Vector.replicate 16 0)) 22), (b5, .cells (BV nonce) 173)]) (X := X27) (R := []) hS).tl.tl fun jj =>dx 12 O (by kernel_rfl) (fun w hS =>asg O O O rr) jj ?_
     refine dl 13 O (by kernel_rfl)<|sa 1 ag22 hS O O O (BV_one _) O (BV_size _) (BV_size _) fun w hS =>lx (St.untail (A := [(b13, .cells (BV (Vector.replicate 16 0)) 22), (b12, .cells (BV (decC key nonce ((bs).take (n - 16)))) 22), (b5, .cells (BV nonce) 173)]) (X := X27) (R := []) hS).tl.tl fun jj =>?_
     refine dl 14 O (by kernel_rfl)<|sa 0 ag22 hS O O O (BV_one _) O (BV_size _) (BV_size _) fun w hS =>ly O<|de (by kernel_rfl) ?_
     exact mmq ⟨a27, c27, X27, b12, b13, hO27, rfl, hS⟩ ⟨rfl, rfl, rfl, rfl, rfl, rfl, rfl, rfl, rfl, trivial⟩
    ·refine ala zr22 hS O O fun b13 w hb13 hS =>lx hS.tl.tl fun jj =>?_
     refine dl 5 O (by kernel_rfl)<|cs cf121 hS O O O O O (sp_open_Decrypt t c key nonce a ((n - 16)) cap (((bs).take (n - 16))) _ (hT.st hS) (by first | rfl | omega | (simp; omega) | (simp; done)) (by omega) ((hc.st hS).take8 (n - 16)) (by omega) (hG.st hS)) ?_
     rintro _ X27 w ⟨a27, c27, rfl, hO27⟩ hS
     have hS := St.tailin (X := X27) hS [(b13, .cells (BV (Vector.replicate 16 0)) 22), (b12, .cells (BV (Vector.replicate 16 0)) 22), (b5, .cells (BV nonce) 173)] [] rfl
     refine lx (St.untail (A := [(b13, .cells (BV (Vector.replicate 16 0)) 22), (b12, .cells (BV (Vector.replicate 16 0)) 22), (b5, .cells (BV nonce) 173)]) (X := X27) (R := []) hS).tl.tl fun jj =>dx 6 O (by kernel_rfl) (fun w hS =>mv O O O rr) jj<|dx 7 O (by kernel_rfl) (fun w hS =>ext O O O O rr) jj<|dx 8 O (by kernel_rfl) (fun w hS =>ext O O O O rr) jj<|dx 9 O (by kernel_rfl) (fun w hS =>ext O O O O rr) jj<|dx 12 O (by kernel_rfl) (fun w hS =>asg O O O rr) jj ?_
     refine dl 13 O (by kernel_rfl)<|sa 1 ag22 hS O O O (BV_one _) O (BV_size _) (BV_size _) fun w hS =>lx (St.untail (A := [(b13, .cells (BV (Vector.replicate 16 0)) 22), (b12, .cells (BV (decC key nonce ((bs).take (n - 16)))) 22), (b5, .cells (BV nonce) 173)]) (X := X27) (R := []) hS).tl.tl fun jj =>?_
     refine dl 14 O (by kernel_rfl)<|sa 0 ag22 hS O O O (BV_one _) O (BV_size _) (BV_size _) fun w hS =>ly O<|de (by kernel_rfl) ?_
     exact mmq ⟨a27, c27, X27, b12, b13, hO27, rfl, hS⟩ ⟨rfl, rfl, rfl, rfl, rfl, rfl, rfl, rfl, rfl, trivial⟩
   ·refine ala zr22 hS O O fun b13 w hb13 hS =>lx hS.tl fun jj =>?_
    refine dl2 5 10 O O (by kernel_rfl) ?_ ?_
    ·refine cs cf121 hS O O O O O (sp_open_Decrypt t c key nonce a ((n - 16)) cap (((bs).take (n - 16))) _ (hT.st hS) (by first | rfl | omega | (simp; omega) | (simp; done)) (by omega) ((hc.st hS).take8 (n - 16)) (by omega) (hG.st hS)) ?_
     rintro _ X27 w ⟨a27, c27, rfl, hO27⟩ hS
     have hS := St.tailin (X := X27) hS [(b13, .cells (BV (Vector.replicate 16 0)) 22), (b5, .cells (BV nonce) 173)] [] rfl
     refine lx (St.untail (A := [(b13, .cells (BV (Vector.replicate 16 0)) 22), (b5, .cells (BV nonce) 173)]) (X := X27) (R := []) hS).tl fun jj =>dx 6 O (by kernel_rfl) (fun w hS =>mv O O O rr) jj<|dx 7 O (by kernel_rfl) (fun w hS =>ext O O O O rr) jj<|dx 8 O (by kernel_rfl) (fun w hS =>ext O O O O rr) jj<|dx 9 O (by kernel_rfl) (fun w hS =>ext O O O O rr) jj ?_
     refine dl 10 O (by kernel_rfl)<|ala zr22 hS O O fun b12 w hb12 hS =>lx (St.untail (A := [(b12, .cells (BV (Vector.replicate 16 0)) 22), (b13, .cells (BV (Vector.replicate 16 0)) 22), (b5, .cells (BV nonce) 173)]) (X := X27) (R := []) hS).tl.tl fun jj =>dx 12 O (by kernel_rfl) (fun w hS =>asg O O O rr) jj ?_
     refine dl 13 O (by kernel_rfl)<|sa 0 ag22 hS O O O (BV_one _) O (BV_size _) (BV_size _) fun w hS =>lx (St.untail (A := [(b12, .cells (BV (decC key nonce ((bs).take (n - 16)))) 22), (b13, .cells (BV (Vector.replicate 16 0)) 22), (b5, .cells (BV nonce) 173)]) (X := X27) (R := []) hS).tl.tl fun jj =>?_
     refine dl 14 O (by kernel_rfl)<|sa 1 ag22 hS O O O (BV_one _) O (BV_size _) (BV_size _) fun w hS =>ly O<|de (by kernel_rfl) ?_
     exact mmq ⟨a27, c27, X27, b12, b13, hO27, rfl, St.prm (A := [(b12, .cells (BV (decC key nonce ((bs).take (n - 16)))) 22), (b13, .cells (BV (cryO key nonce (n - 16))) 22), (b5, .cells (BV nonce) 173)]) (B := [(b13, .cells (BV (cryO key nonce (n - 16))) 22), (b12, .cells (BV (decC key nonce ((bs).take (n - 16)))) 22), (b5, .cells (BV nonce) 173)]) (R := (X27 ++ [])) hS [1, 0, 2] (by decide) rfl⟩ ⟨rfl, rfl, rfl, rfl, rfl, rfl, rfl, rfl, rfl, trivial⟩
    ·refine ala zr22 hS O O fun b12 w hb12 hS =>lx hS.tl.tl fun jj =>?_
     refine dl 5 O (by kernel_rfl)<|cs cf121 hS O O O O O (sp_open_Decrypt t c key nonce a ((n - 16)) cap (((bs).take (n - 16))) _ (hT.st hS) (by first | rfl | omega | (simp; omega) | (simp; done)) (by omega) ((hc.st hS).take8 (n - 16)) (by omega) (hG.st hS)) ?_
     rintro _ X27 w ⟨a27, c27, rfl, hO27⟩ hS
     have hS := St.tailin (X := X27) hS [(b12, .cells (BV (Vector.replicate 16 0)) 22), (b13, .cells (BV (Vector.replicate 16 0)) 22), (b5, .cells (BV nonce) 173)] [] rfl
     refine lx (St.untail (A := [(b12, .cells (BV (Vector.replicate 16 0)) 22), (b13, .cells (BV (Vector.replicate 16 0)) 22), (b5, .cells (BV nonce) 173)]) (X := X27) (R := []) hS).tl.tl fun jj =>dx 6 O (by kernel_rfl) (fun w hS =>mv O O O rr) jj<|dx 7 O (by kernel_rfl) (fun w hS =>ext O O O O rr) jj<|dx 8 O (by kernel_rfl) (fun w hS =>ext O O O O rr) jj<|dx 9 O (by kernel_rfl) (fun w hS =>ext O O O O rr) jj<|dx 12 O (by kernel_rfl) (fun w hS =>asg O O O rr) jj ?_
     refine dl 13 O (by kernel_rfl)<|sa 0 ag22 hS O O O (BV_one _) O (BV_size _) (BV_size _) fun w hS =>lx (St.untail (A := [(b12, .cells (BV (decC key nonce ((bs).take (n - 16)))) 22), (b13, .cells (BV (Vector.replicate 16 0)) 22), (b5, .cells (BV nonce) 173)]) (X := X27) (R := []) hS).tl.tl fun jj =>?_
     refine dl 14 O (by kernel_rfl)<|sa 1 ag22 hS O O O (BV_one _) O (BV_size _) (BV_size _) fun w hS =>ly O<|de (by kernel_rfl) ?_
     exact mmq ⟨a27, c27, X27, b12, b13, hO27, rfl, St.prm (A := [(b12, .cells (BV (decC key nonce ((bs).take (n - 16)))) 22), (b13, .cells (BV (cryO key nonce (n - 16))) 22), (b5, .cells (BV nonce) 173)]) (B := [(b13, .cells (BV (cryO key nonce (n - 16))) 22), (b12, .cells (BV (decC key nonce ((bs).take (n - 16)))) 22), (b5, .cells (BV nonce) 173)]) (R := (X27 ++ [])) hS [1, 0, 2] (by decide) rfl⟩ ⟨rfl, rfl, rfl, rfl, rfl, rfl, rfl, rfl, rfl, trivial⟩
  ·rintro _ w ⟨a27, c27, X27, b12, b13, hO27, rfl, hS⟩
   refine rg<|mv O O O<|la 1 ag22 hS O O O O (BV_size _)<|la 0 ag22 hS O O O O (BV_size _)<|mv O O O<|cv cf117 hS O O O O O (sp_seal_Tag t c key ((decC key nonce ((bs).take (n - 16)))) ((cryO key nonce (n - 16))) a2 n2 cap2 bs2 _ (hT.st hS) (by first | rfl | omega | (simp; omega) | (simp; done)) (by omega) (he2.st hS) (by omega) (hG.st hS)) fun w hS =>ala zr22 hS O O fun b14 w hb14 hS =>sa 0 ag22 hS O O O (BV_one _) O (BV_size _) (BV_size _) fun w hS =>wt<|wc_seq<|rd mo 6 (fun w =>St w0 [] ([(b14, .cells (BV (tagV key (decC key nonce ((bs).take (n - 16))) (cryO key nonce (n - 16)) bs2)) 22), (b13, .cells (BV (cryO key nonce (n - 16))) 22), (b12, .cells (BV (decC key nonce ((bs).take (n - 16)))) 22), (b5, .cells (BV nonce) 173)] ++ (X27 ++ [])) w) ?_
   have hS := hS.drew
   refine jx hS fun jj =>dx 0 O (by kernel_rfl) (fun w hS =>a_all un22 ⟨_, sz5⟩ O O O rr) jj<|dx 1 O (by kernel_rfl) (fun w hS =>mv O O O rr) jj<|dx 2 O (by kernel_rfl) (fun w hS =>mv O O O rr) jj<|dx 3 O (by kernel_rfl) (fun w hS =>s_l ((n - 16)) un30 sz5 O O O O (by omega) (by omega) rr) jj ?_
   refine dl 4 O (by kernel_rfl)<|cv cf122 hS O O O O O (sp_bits_Equal ((some ⟨b14, 0, none⟩)) 16 16 (((tagV key (decC key nonce ((bs).take (n - 16))) (cryO key nonce (n - 16)) bs2).toList)) ((sla a (n - 16) cap)) ((n - (n - 16))) ((cap - (n - 16))) (((bs).drop (n - 16))) _ Vector.length_toList (by omega) (Cel.bv (hS.get 0 O)) (by first | rfl | omega | (simp; omega) | (simp; done)) (by omega) ((hc.st hS).drop8 (lo := (n - 16)) (cap := cap) (by first | omega | (simp; omega) | simp))) fun w hS =>lx hS fun jj =>dx 5 O (by kernel_rfl) (fun w hS =>notb O O O rr) jj<|de (by kernel_rfl)<|wt ?_
   refine wc_if O (fun hc2 =>?_) (fun hc2 =>?_)
   ·try simp only [SB] at hc2
    have he0 := hc2
    refine rg<|mki cc33 O O O<|asg O O O<|asg O O O<|wt<|wc_ret<|q_then_ret<|fin2 (v := (.slice none 0 0)) (u := (.iface 33 (I 3))) O O O ?_
    have he : opnE key nonce bs2 bs = 3 := opnE_f hn (by omega) he0
    exact ⟨_, [], rfl, ⟨none, 0, 0, opn_e (by decide) he, opn_o (by decide) he⟩, hS.drop⟩
   ·try simp only [SB] at hc2
    have he0 := hc2
    refine wc_skip<|wt<|rg<|mv O O O<|asg O O O<|asg O O O<|wt<|wc_ret<|fin2 (v := .slice a27 (n - 16) c27) (u := .nilIface) O O O ?_
    have he : opnE key nonce bs2 bs = 0 := opnE_t hn (by omega) he0
    exact ⟨_, X27, rfl, ⟨_, _, _, opn_e0 he, opn_o0 hn he hO27⟩, hS.sublist (.cons _ (.cons _ (.cons _ (.cons _ (List.sublist_append_left X27 [])))))⟩
theorem sp_packet_Decode (t c : Nat) (key : V8 16) (a : Option Addr) (n cap : Nat) (bs : List UInt8) (w0 : World) (hT : TabAt w0 t c key) (hn : bs.length = n) (hN : n ≤ 1000000) (hc : Cel w0 a (c8 bs)) (hcap : n ≤ cap) (hG : Gl 1 w0) : Calls Tryz.prog 50 #[Ptr t 0, .slice a n cap] w0 (RetS w0 (fun v X => DecR key bs 33 v X)) := by
 refine enter (args := [Ptr t 0, .slice a n cap]) Tryz.func50 O O<|startw fun w hS =>?_
 obtain ⟨⟨T, hT1⟩, E, hC⟩ := id hT
 refine rg<|ala zr100 hS O O fun b4 w hb4 hS =>asg O O O<|wt<|wc_seq<|rg<|mv O O O<|lens un30 O O O<|cv cf89 hS O O O O O (sp_packet_length n _ _ (by omega)) fun w hS =>asg O O O<|wt<|rg ?_
 refine mv O O O<|neE (C := 33) (c := (lng n)) un27 O O O<|wt ?_
 refine wc_if O (fun hc1 =>?_) (fun hc1 =>?_)
 ·try simp only [SB] at hc1
  have hk : lng n ≠ 0 := by simpa using hc1
  have hq := dcdE_1 (key := key) hn hk
  refine rg<|bd (cs := #[I (0), U64 (0), U16 (0), U16 (0), (.slice none 0 0)]) O O O (by kernel_rfl)<|mv O O O<|sa 0 ag100 hS O O O (by kernel_rfl) O O O fun w hS =>asg O O O<|wt<|wc_ret<|q_then_ret<|fin2 (v := .agg (#[I (0), U64 (0), U16 (0), U16 (0), (.slice none 0 0)])) (u := (errV 33 (lng n))) O ⟨_, O, lv_a ag100 (hS.get 0 O) O⟩ O ?_
  have hj : dcdE key bs ≠ 0 := by rw [hq]; exact hk
  rw [← hq]
  exact ⟨_, [], rfl, dec_bad hj, hS.drop⟩
 ·try simp only [SB] at hc1
  have hk : lng n = 0 := by simpa using hc1
  have hq := dcdE_2 (key := key) hn hk
  have h28 := lng_0 hk
  refine wc_skip<|wt<|rd mo 12 (fun w =>St w0 [] [(b4, .cells (#[I (0), U64 (0), U16 (0), U16 (0), (.slice none 0 0)]) 100)] w)<|have hS := hS.drew; jx hS fun jj =>dx 0 O (by kernel_rfl) (fun w hS =>mv O O O rr) jj<|dx 1 O (by kernel_rfl) (fun w hS =>mv O O O rr) jj<|dx 2 O (by kernel_rfl) (fun w hS =>s2b un166 O O O (by omega) ((hc.st hS).some8 (j := 0) (by first | omega | (simp; omega) | simp)) rr) jj<|dx 3 O (by kernel_rfl) (fun w hS =>ld O O O (lv_celj 0 ag166 (hc.st hS) (by first | omega | (simp; done) | (simp; omega)) (by omega)) rr) jj<|dx 5 O (by kernel_rfl) (fun w hS =>mv O O O rr) jj<|dx 6 O (by kernel_rfl) (fun w hS =>s_l 8 un30 sz5 O O O O (by omega) (by omega) rr) jj ?_
  refine dl 4 O (by kernel_rfl)<|cv cf86 hS O O O O O (sp_nonce_Whole ((ofl 8 bs)) _) fun w hS =>lx hS fun jj =>?_
  refine dl 7 O (by kernel_rfl)<|cs cf90 hS O O O O O (sp_open_Open t c key ((nonceV (ofl 8 bs))) ((sla a 8 cap)) ((n - 8)) ((cap - 8)) (((bs).drop 8)) none 0 0 (([])) _ (hT.st hS) (by first | rfl | omega | (simp; omega) | (simp; done)) (by omega) ((hc.st hS).drop8 (lo := 8) (cap := cap) (by first | omega | (simp; omega) | simp)) (by omega) O (by omega) (Cel.nil _ _) (by omega) (hG.st hS)) ?_
  rintro _ X28 w ⟨a28, n28, c28, rfl, hO28⟩ hS
  have hS := St.tailin (X := X28) hS [(b4, .cells (#[I (0), U64 (0), U16 (0), U16 (0), (.slice none 0 0)]) 100)] [] rfl
  refine lx (St.untail (A := [(b4, .cells (#[I (0), U64 (0), U16 (0), U16 (0), (.slice none 0 0)]) 100)]) (X := X28) (R := []) hS) fun jj =>dx 8 O (by kernel_rfl) (fun w hS =>mv O O O rr) jj<|dx 9 O (by kernel_rfl) (fun w hS =>ext O O O O rr) jj<|dx 10 O (by kernel_rfl) (fun w hS =>ext O O O O rr) jj<|dx 11 O (by kernel_rfl) (fun w hS =>asg O O O rr) jj ?_
  refine dl 12 O (by kernel_rfl)<|asg O O O<|ly O<|de (by kernel_rfl)<|wt<|wc_seq<|rg<|mv O O O<|neE (C := 33) (c := (opnE key (nonceV (ofl 8 bs)) ([]) ((bs).drop 8))) un27 O O O<|wt ?_
  refine wc_if O (fun hc2 =>?_) (fun hc2 =>?_)
  ·try simp only [SB] at hc2
   have hj : dcdE key bs ≠ 0 := by rw [hq]; simpa using hc2
   refine rg<|bd (cs := #[I (0), U64 (0), U16 (0), U16 (0), (.slice none 0 0)]) O O O (by kernel_rfl)<|mv O O O<|sa 0 ag100 hS O O O (by kernel_rfl) O O O fun w hS =>asg O O O<|wt<|wc_ret<|q_then_ret<|fin2 (v := .agg (#[I (0), U64 (0), U16 (0), U16 (0), (.slice none 0 0)])) (u := (errV 33 (opnE key (nonceV (ofl 8 bs)) ([]) ((bs).drop 8)))) O ⟨_, O, lv_a ag100 (hS.get 0 O) O⟩ O ?_
   rw [← hq]
   exact ⟨_, [], rfl, dec_bad hj, hS.drop⟩
  ·try simp only [SB] at hc2
   have hj : dcdE key bs = 0 := by rw [hq]; simpa using hc2
   rw [← hq, if_pos hj] at hO28
   have hO28 : Own 1 a28 n28 c28 (c8 (dcdX key bs)) X28 := hO28
   have hl28 := hO28.len8
   have hl29 := dcdX_len key bs
   have hl30 := hO28.le
   refine wc_skip<|wt<|rg<|mv O O O<|cv cf91 hS O O O O O (sp_nonce_ParseHead a n cap bs _ (by first | rfl | omega | (simp; omega) | (simp; done)) (by omega) (hc.st hS) (by omega) (by omega)) fun w hS =>mv O O O<|ext O O O O<|ext O O O O<|ext O O O O<|asg O O O<|asg O O O<|asg O O O ?_
   refine wt<|rg<|mv O O O<|s_h 4 un30 ⟨_, sz5⟩ O O O O (by omega) (by omega)<|cv cf92 hS O O O O O (sp_bits_Number a28 4 c28 (((dcdX key bs).take 4)) _ (by first | rfl | omega | (simp; omega) | (simp; done)) (by omega) ((hO28.cel hS (fun p hp =>by simp [hp])).take8 4) (by omega)) fun w hS =>asg O O O<|wt<|rg<|mv O O O<|mv O O O<|mv O O O<|shrn64 16 (by omega) O O O O ?_
   refine cvu16 un36 ⟨_, un24⟩ O O O<|mv O O O<|cvu16 un36 ⟨_, un24⟩ O O O<|mv O O O<|s_l 4 un30 sz5 O O O O (by omega) (by omega)<|bd (cs := #[I ((headD bs : Nat) : Int), U64 (headS bs), U16 (toU16 (((shr64 (number ((dcdX key bs).take 4)) 16).toNat : Int))), U16 (toU16 (((number ((dcdX key bs).take 4)).toNat : Int))), .slice (sla a28 4 c28) (n28 - 4) (c28 - 4)]) O O O (by kernel_rfl)<|sa 0 ag100 hS O O O (by kernel_rfl) O O O fun w hS =>asg O O O<|wt<|wc_ret<|fin2 (v := .agg (#[I ((headD bs : Nat) : Int), U64 (headS bs), U16 (toU16 (((shr64 (number ((dcdX key bs).take 4)) 16).toNat : Int))), U16 (toU16 (((number ((dcdX key bs).take 4)).toNat : Int))), .slice (sla a28 4 c28) (n28 - 4) (c28 - 4)])) (u := .nilIface) O ⟨_, O, lv_a ag100 (hS.get 0 O) O⟩ O ?_
   exact ⟨_, X28, rfl, dec_ok hj (by omega) hl28 (by omega) hO28, hS.sublist (.cons _ (List.sublist_append_left X28 []))⟩
theorem sp_stamp_Diff (a b : UInt16) (w0 : World) : Calls Tryz.prog 94 #[U16 a, U16 b] w0 (Ret w0 (U16 (a - b))) := by
 refine enter (args := [U16 a, U16 b]) Tryz.func94 O O<|startw fun w hS =>rg<|asg O O O<|wt<|rg<|mv O O O<|mv O O O<|sub16 O O O O<|asg O O O<|wt<|wc_ret ?_
 refine fin1 (v := U16 (a - b)) O O ?_
 exact ⟨rfl, hS.drop⟩
theorem sp_stamp_Sample_1 (e : UInt16) (w0 : World) : Calls Tryz.prog 93 #[U16 e] w0 (Ret w0 (.bool (decide (e ≠ 65535)))) := by
 refine enter (args := [U16 e]) Tryz.func93 O O<|startw fun w hS =>rg<|asg O O O<|wt<|rg<|mv O O O<|nei O O O O<|asg O O O<|wt<|wc_ret<|fin1 (v := .bool ((((e).toNat : Int) : Int) != (65535 : Int))) O O ?_
 refine ⟨?_, hS.drop⟩
 rw [ne_u16]
theorem sp_stamp_Sample (now e : UInt16) (w0 : World) : Calls Tryz.prog 56 #[U16 now, U16 e] w0 (Ret w0 (.tuple #[U16 (smpV now e), .bool (decide (e ≠ 65535))])) := by
 refine enter (args := [U16 now, U16 e]) Tryz.func56 O O<|startw fun w hS =>rg<|asg O O O<|asg O O O<|wt<|rg<|asg O O O<|wt<|wc_seq<|rg<|mv O O O ?_
 refine mv O O O<|cv cf93 hS O O O O O (sp_stamp_Sample_1 e _) fun w hS =>notb O O O<|wt ?_
 refine wc_if O (fun hc1 =>?_) (fun hc1 =>?_)
 ·try simp only [SB] at hc1
  have he : e = 65535 := by simpa using hc1
  refine rg<|asg O O O<|asg O O O<|wt<|wc_ret<|q_then_ret<|fin2 (v := U16 0) (u := .bool false) O O O ?_
  refine ⟨?_, hS.drop⟩
  simp only [smpV, he, if_true, if_false, ne_eq, not_true_eq_false, not_false_eq_true, decide_true, decide_false]
 ·try simp only [SB] at hc1
  have he : ¬ e = 65535 := by simpa using hc1
  refine wc_skip<|wt<|rg<|mv O O O<|mv O O O<|cv cf94 hS O O O O O (sp_stamp_Diff now e _) fun w hS =>asg O O O<|asg O O O<|wt<|wc_ret<|fin2 (v := U16 (now - e)) (u := .bool true) O O O ?_
  refine ⟨?_, hS.drop⟩
  simp only [smpV, he, if_true, if_false, ne_eq, not_true_eq_false, not_false_eq_true, decide_true, decide_false]
theorem sp_echo_Rtt_Add (s E : Nat) (v0 v1 v2 v3 v4 v5 v9 v10 : Value) (rl : UInt16) (rc : Nat) (re : UInt32) (x : UInt16) (w0 : World) (hs : w0.heap[s]? = some (.cells (#[v0, v1, v2, v3, v4, v5, U16 (rl), I ((rc : Int)), U32 (re), v9, v10]) E)) (hrc : rc < 1000000000) : Calls Tryz.prog 57 #[Ptr s 6, U16 x] w0 (RetM w0 [s] (fun v L' => L' = [(s, .cells #[v0, v1, v2, v3, v4, v5, U16 x, I ((rc + 1 : Nat) : Int), U32 (estN rc re x), v9, v10] E)])) := by
 refine enter (args := [Ptr s 6, U16 x]) Tryz.func57 O O<|startx (F := [s]) (L := [(s, .cells (#[v0, v1, v2, v3, v4, v5, U16 (rl), I ((rc : Int)), U32 (re), v9, v10]) E)]) (St.starts (X := [(s, .cells (#[v0, v1, v2, v3, v4, v5, U16 (rl), I ((rc : Int)), U32 (re), v9, v10]) E)]) (fun p hp =>by simp only [List.mem_cons, List.not_mem_nil, or_false] at hp; subst hp; exact hs) (by simp)) fun w hS =>wc_seq<|rg<|mv O O O<|eqpn un175 O O O O<|wt<|wc_if_f O<|wc_skip<|wt<|rg<|mv O O O ?_
 refine cvu32 un72 ⟨_, un36⟩ O O O<|asg O O O<|wt<|wc_seq<|rg<|mv O O O<|nilp O O O<|fan 1 7 un88 O sz3 (by decide) O O O O (by omega)<|lo 0 sc3 hS O O O O O<|eqi O O O O<|wt ?_
 refine wc_if O (fun hc1 =>?_) (fun hc1 =>?_)
 ·try simp only [SB] at hc1
  refine wc_region<|mv O O O<|mv O O O<|shln32 3 (by omega) O O O O<|nilp O O O<|fan 2 8 un88 O sz72 (by decide) O O O O (by omega)<|st 0 sz72 hS O O O O O O (by show (8 : Nat) < 11; decide) O fun w hS =>wt<|rg<|mv O O O<|mv O O O<|nilp O O O ?_
  refine fan 0 6 un88 O sz36 (by decide) O O O O (by omega)<|st 0 sz36 hS O O O O O O (by show (6 : Nat) < 11; decide) O fun w hS =>wt<|wc_region<|mv O O O<|nilp O O O<|fan 1 7 un88 O sz3 (by decide) O O O O (by omega)<|lo 0 sc3 hS O O O O O<|addi (by omega) (by omega) O O O O<|nilp O O O<|fan 1 7 un88 O sz3 (by decide) O O O O (by omega)<|st 0 sz3 hS O O O O O O (by show (7 : Nat) < 11; decide) O fun w hS =>?_
  refine q_norm_ret<|fin0 O ?_
  refine ⟨_, _, O, O, ?_⟩
  first | (rw [estN, if_pos (by omega)]; exact hS) | (rw [estN, if_neg (by omega)]; exact hS)
 ·try simp only [SB] at hc1
  refine wc_draw mo 13 (fun w =>St w0 [s] [(s, .cells (#[v0, v1, v2, v3, v4, v5, U16 (rl), I ((rc : Int)), U32 (re), v9, v10]) E)] w)<|have hS := hS.drew; jx hS fun jj =>dx 0 O (by kernel_rfl) (fun w hS =>mv O O O rr) jj<|dx 1 O (by kernel_rfl) (fun w hS =>nilp O O O rr) jj<|dx 2 O (by kernel_rfl) (fun w hS =>fan 2 8 un88 O sz72 (by decide) O O O O (by omega) rr) jj<|dx 3 O (by kernel_rfl) (fun w hS =>lo 0 sc72 hS O O O O O rr) jj<|dx 4 O (by kernel_rfl) (fun w hS =>mv O O O rr) jj<|dx 5 O (by kernel_rfl) (fun w hS =>mv O O O rr) jj<|dx 6 O (by kernel_rfl) (fun w hS =>nilp O O O rr) jj<|dx 7 O (by kernel_rfl) (fun w hS =>fan 2 8 un88 O sz72 (by decide) O O O O (by omega) rr) jj<|dx 8 O (by kernel_rfl) (fun w hS =>lo 0 sc72 hS O O O O O rr) jj<|dx 9 O (by kernel_rfl) (fun w hS =>add32 (q := (4 : UInt32)) O O O O rr) jj ?_
  refine dx 10 O (by kernel_rfl) (fun w hS =>shrn32 3 (by omega) O O O O rr) jj<|dx 11 O (by kernel_rfl) (fun w hS =>sub32 O O O O rr) jj<|dx 12 O (by kernel_rfl) (fun w hS =>add32 O O O O rr) jj ?_
  refine dl 13 O (by kernel_rfl)<|nilp O O O<|ly O ?_
  refine dl 14 O (by kernel_rfl)<|fan 2 8 un88 O sz72 (by decide) O O O O (by omega)<|ly O ?_
  refine dl 15 O (by kernel_rfl)<|st 0 sz72 hS O O O O O O (by show (8 : Nat) < 11; decide) O fun w hS =>ly O<|de (by kernel_rfl)<|wt<|rg<|mv O O O<|mv O O O<|nilp O O O<|fan 0 6 un88 O sz36 (by decide) O O O O (by omega)<|st 0 sz36 hS O O O O O O (by show (6 : Nat) < 11; decide) O fun w hS =>wt ?_
  refine wc_region<|mv O O O<|nilp O O O<|fan 1 7 un88 O sz3 (by decide) O O O O (by omega)<|lo 0 sc3 hS O O O O O<|addi (by omega) (by omega) O O O O<|nilp O O O<|fan 1 7 un88 O sz3 (by decide) O O O O (by omega)<|st 0 sz3 hS O O O O O O (by show (7 : Nat) < 11; decide) O fun w hS =>q_norm_ret<|fin0 O ?_
  refine ⟨_, _, O, O, ?_⟩
  first | (rw [estN, if_pos (by omega)]; exact hS) | (rw [estN, if_neg (by omega)]; exact hS)
theorem sp_filter_Filter_Fresh (pf E ac rf : Nat) (ls : UInt64) (sq : UInt64) (w0 : World) (hpf : w0.heap[pf]? = some (.cells (#[I (ac : Int), I (rf : Int), U64 ls]) E)) : Calls Tryz.prog 52 #[Ptr pf 0, U64 sq] w0 (Ret w0 (.bool (frsh ls sq))) := by
 refine enter (args := [Ptr pf 0, U64 sq]) Tryz.func52 O O<|startw fun w hS =>rg<|asg O O O<|wt<|rg<|mv O O O<|nepn un83 O O O O<|mv O O O<|mv O O O<|mv O O O<|nilp O O O ?_
 refine fan 2 2 un155 O sz24 (by decide) O O O O (by omega)<|lod hpf List.not_mem_nil sc24 hS O O O O<|geq O O O O<|pk_t O O O O<|mv O O O ?_
 refine spl 15 O (fun hb1 =>?_) (fun hb1 =>?_)
 ·try simp only [SB] at hb1
  refine mv O O O<|leq O O O O<|pk_t O O O O<|asg O O O<|wt<|wc_ret<|fin1 (v := .bool (decide (((sq).toNat : Int) ≤ (9223372036854775807 : Int)))) O O ?_
  refine ⟨?_, hS.drop⟩
  congr 2
  simp only [frsh]
  first | (rw [decide_eq_false (by omega)]) | (congr 1; apply propext; omega)
 ·try simp only [SB] at hb1
  refine no O O<|no O O<|pk_f O O O O<|asg O O O<|wt<|wc_ret<|fin1 (v := .bool false) O O ?_
  refine ⟨?_, hS.drop⟩
  congr 2
  simp only [frsh]
  first | (rw [decide_eq_false (by omega)]) | (congr 1; apply propext; omega)
theorem sp_filter_Filter_Refuse (pf E : Nat) (ac rf : Nat) (ls : UInt64) (w0 : World) (hpf : w0.heap[pf]? = some (.cells (#[I ((ac : Int)), I ((rf : Int)), U64 (ls)]) E)) (hrf : rf < 1000000000) : Calls Tryz.prog 53 #[Ptr pf 0] w0 (RetM w0 [pf] (fun v L' => L' = [(pf, .cells #[I (ac : Int), I ((rf + 1 : Nat) : Int), U64 ls] E)])) := by
 refine enter (args := [Ptr pf 0]) Tryz.func53 O O<|startx (F := [pf]) (L := [(pf, .cells (#[I ((ac : Int)), I ((rf : Int)), U64 (ls)]) E)]) (St.starts (X := [(pf, .cells (#[I ((ac : Int)), I ((rf : Int)), U64 (ls)]) E)]) (fun p hp =>by simp only [List.mem_cons, List.not_mem_nil, or_false] at hp; subst hp; exact hpf) (by simp)) fun w hS =>rg<|mv O O O<|nepn un83 O O O O<|wt<|wc_if_t O<|wc_region<|mv O O O<|nilp O O O<|fan 0 0 un155 O sz153 (by decide) O O O O (by omega)<|fan 1 1 un153 O sz3 (by decide) O O O O (by omega) ?_
 refine lo 0 sc3 hS O O O O O<|addi (by omega) (by omega) O O O O<|nilp O O O<|fan 0 0 un155 O sz153 (by decide) O O O O (by omega)<|fan 1 1 un153 O sz3 (by decide) O O O O (by omega)<|st 0 sz3 hS O O O O O O (by show (1 : Nat) < 3; decide) O fun w hS =>q_norm_ret<|fin0 O ?_
 exact ⟨_, _, rfl, rfl, hS⟩
theorem sp_filter_Filter_Accept (pf E : Nat) (ac rf : Nat) (ls sq : UInt64) (w0 : World) (hpf : w0.heap[pf]? = some (.cells (#[I ((ac : Int)), I ((rf : Int)), U64 (ls)]) E)) (hac : ac < 1000000000) (hf : frsh ls sq = true) : Calls Tryz.prog 54 #[Ptr pf 0, U64 sq] w0 (RetM w0 [pf] (fun v L' => v = errV 33 0 ∧ L' = [(pf, .cells #[I ((ac + 1 : Nat) : Int), I (rf : Int), U64 (sq + 1)] E)])) := by
 refine enter (args := [Ptr pf 0, U64 sq]) Tryz.func54 O O<|startx (F := [pf]) (L := [(pf, .cells (#[I ((ac : Int)), I ((rf : Int)), U64 (ls)]) E)]) (St.starts (X := [(pf, .cells (#[I ((ac : Int)), I ((rf : Int)), U64 (ls)]) E)]) (fun p hp =>by simp only [List.mem_cons, List.not_mem_nil, or_false] at hp; subst hp; exact hpf) (by simp)) fun w hS =>rg<|asg O O O<|wt<|wc_seq<|wc_block<|rg<|mv O O O<|eqpn un83 O O O O<|asg O O O<|wt ?_
 refine wc_if_f O<|rg<|mv O O O<|mv O O O<|cv cf52 hS O O O O O (sp_filter_Filter_Fresh pf _ ac rf ls sq _ (hS.get 0 O)) fun w hS =>asg O O O<|wt ?_
 refine wc_if O (fun hc1 =>?_) (fun hc1 =>?_)
 ·try simp only [SB] at hc1
  refine rg<|mv O O O<|mv O O O<|add64 (q := (1 : UInt64)) O O O O<|nilp O O O<|fan 2 2 un155 O sz24 (by decide) O O O O (by omega)<|st 0 sz24 hS O O O O O O (by show (2 : Nat) < 3; decide) O fun w hS =>wt<|rg<|mv O O O<|nilp O O O<|fan 0 0 un155 O sz153 (by decide) O O O O (by omega) ?_
  refine fan 0 0 un153 O sz3 (by decide) O O O O (by omega)<|lo 0 sc3 hS O O O O O<|addi (by omega) (by omega) O O O O<|nilp O O O<|fan 0 0 un155 O sz153 (by decide) O O O O (by omega)<|fan 0 0 un153 O sz3 (by decide) O O O O (by omega)<|st 0 sz3 hS O O O O O O (by show (0 : Nat) < 3; decide) O fun w hS =>wt<|rg<|asg O O O<|wt<|wc_ret ?_
  refine q_block_ret<|q_then_ret<|fin1 (v := .nilIface) O O ?_
  exact ⟨_, _, rfl, ⟨rfl, rfl⟩, hS⟩
 ·try simp only [SB] at hc1
  rw [hf] at hc1; cases hc1
theorem sp_peer_Peer_Move (pp E : Nat) (pm : Nat) (ad : List UInt8) (fx : Bool) (mvs : Nat) (m : List (List UInt8 × Int)) (s : List UInt8) (w0 : World) (hpp : w0.heap[pp]? = some (.cells (#[Str ad, .bool (fx), I (((mvs : Nat) : Int)), .map (some pm)]) E)) (hpm : w0.heap[pm]? = some (mOb encS vI m)) (hnd : ([pp, pm] : List Nat).Nodup) (hmv : mvs < 1000000000) : Calls Tryz.prog 58 #[Ptr pp 0, Str s] w0 (RetM w0 [pp, pm] (fun v L' => ∃ b m', v = .bool b ∧ L' = [(pp, .cells #[Str (mvA fx ad s), .bool fx, I ((mvN fx ad s mvs : Nat) : Int), .map (some pm)] E), (pm, mOb encS vI m')])) := by
 refine enter (args := [Ptr pp 0, Str s]) Tryz.func58 rfl rfl <| startx (F := [pp, pm]) (L := [(pp, .cells (#[Str ad, .bool (fx), I (((mvs : Nat) : Int)), .map (some pm)]) E), (pm, mOb encS vI m)]) (St.starts (X := [(pp, .cells (#[Str ad, .bool (fx), I (((mvs : Nat) : Int)), .map (some pm)]) E), (pm, mOb encS vI m)]) (fun p hp => by simp only [List.mem_cons, List.not_mem_nil, or_false] at hp; rcases hp with rfl | rfl; exact hpp; exact hpm) hnd) fun w hS => rg <| asg rfl rfl rfl <| wq_then <| wc_seq <| rg <| mv rfl rfl rfl <| eqpn un76 rfl rfl rfl rfl <| mv rfl rfl rfl <| mv rfl rfl rfl <| nilp rfl rfl rfl ?_
 refine fan 1 1 un135 O sz4 (by decide) O O O O (by omega)<|lo 0 sc4 hS O O O O O<|pk_f O O O O<|mv O O O ?_
 refine spl 13 O (fun hb1 =>?_) (fun hb1 =>?_)
 ·try simp only [SB] at hb1
  refine no O O<|no O O<|no O O<|pk_t O O O O<|wt<|wc_if_t O<|rg<|asg O O O<|wt<|wc_ret<|q_then_ret<|fin1 (v := .bool false) O O ?_
  first | exact ⟨_, _, rfl, ⟨_, _, rfl, rfl⟩, hS⟩ | (obtain ⟨e1, e2⟩ := mv_no (mv := mvs) (ad := ad) (s := s) (fx := fx) (by simp_all); exact ⟨_, _, rfl, ⟨_, _, rfl, rfl⟩, by rw [e1, e2]; exact hS⟩) | (obtain ⟨e1, e2⟩ := mv_yes (mv := mvs) (ad := ad) (s := s) (fx := fx) (by simp_all) (by simp_all) (by simp_all); exact ⟨_, _, rfl, ⟨_, _, rfl, rfl⟩, by rw [e1, e2]; exact hS⟩)
 ·try simp only [SB] at hb1
  refine mv O O O<|cv cf70 hS O O O O O (sp_peer_Right s _) fun w hS =>notb O O O<|pk_f O O O O<|wt ?_
  refine wc_if O (fun hc1 =>?_) (fun hc1 =>?_)
  ·try simp only [SB] at hc1
   refine rg<|asg O O O<|wt<|wc_ret<|q_then_ret<|fin1 (v := .bool false) O O ?_
   first | exact ⟨_, _, rfl, ⟨_, _, rfl, rfl⟩, hS⟩ | (obtain ⟨e1, e2⟩ := mv_no (mv := mvs) (ad := ad) (s := s) (fx := fx) (by simp_all); exact ⟨_, _, rfl, ⟨_, _, rfl, rfl⟩, by rw [e1, e2]; exact hS⟩) | (obtain ⟨e1, e2⟩ := mv_yes (mv := mvs) (ad := ad) (s := s) (fx := fx) (by simp_all) (by simp_all) (by simp_all); exact ⟨_, _, rfl, ⟨_, _, rfl, rfl⟩, by rw [e1, e2]; exact hS⟩)
  ·try simp only [SB] at hc1
   refine wc_skip<|wt<|rd mo 10 (fun w =>St w0 [pp, pm] [(pp, .cells (#[Str ad, .bool (fx), I (((mvs : Nat) : Int)), .map (some pm)]) E)] w)<|have hS := hS.drew; jx (hS.sl 1 1) fun jj =>dx 0 O (by kernel_rfl) (fun w hS =>mv O O O rr) jj<|dx 1 O (by kernel_rfl) (fun w hS =>nilp O O O rr) jj<|dx 2 O (by kernel_rfl) (fun w hS =>fan 3 3 un135 O sz133 (by decide) O O O O (by omega) rr) jj<|dx 3 O (by kernel_rfl) (fun w hS =>lo 0 sc133 hS O O O O O rr) jj<|dx 4 O (by kernel_rfl) (fun w hS =>mv O O O rr) jj<|dx 5 O (by kernel_rfl) (fun w hS =>bd (cs := #[Str s]) O O O (by kernel_rfl) rr) jj ?_
   refine dl2 6 8 O O (by kernel_rfl) ?_ ?_
   ·refine lku (m := m) (a := s) un133 mk133 zr3 O O O O (hS.get 1 O)<|lx (hS.sl 1 1) fun jj =>dx 7 O (by kernel_rfl) (fun w hS =>addw O O O O rr) jj ?_
    refine dl 8 O (by kernel_rfl)<|mpe (m := m) (a := s) 1 un133 mk133 zr3 hS O O O O O fun w hS =>lx (hS.sl 1 1) fun jj =>dx 9 O (by kernel_rfl) (fun w hS =>ext O O O O rr) jj ?_
    refine dl 10 O (by kernel_rfl)<|ens (m := mPut m s 0) (a := s) 1 (mPos m s) hS O O O O O O (mPut_has _ _ _) fun w hS =>ly O<|de (by kernel_rfl)<|wt<|wc_seq<|rg<|mv O O O<|nilp O O O<|fan 0 0 un135 O sz9 (by decide) O O O O (by omega)<|lo 0 sc9 hS O O O O O<|mv O O O ?_
    refine eqs O O O O<|wt ?_
    refine wc_if O (fun hc2 =>?_) (fun hc2 =>?_)
    ·try simp only [SB] at hc2
     refine rg<|asg O O O<|wt<|wc_ret<|q_then_ret<|fin1 (v := .bool false) O O ?_
     first | exact ⟨_, _, rfl, ⟨_, _, rfl, rfl⟩, hS⟩ | (obtain ⟨e1, e2⟩ := mv_no (mv := mvs) (ad := ad) (s := s) (fx := fx) (by simp_all); exact ⟨_, _, rfl, ⟨_, _, rfl, rfl⟩, by rw [e1, e2]; exact hS⟩) | (obtain ⟨e1, e2⟩ := mv_yes (mv := mvs) (ad := ad) (s := s) (fx := fx) (by simp_all) (by simp_all) (by simp_all); exact ⟨_, _, rfl, ⟨_, _, rfl, rfl⟩, by rw [e1, e2]; exact hS⟩)
    ·try simp only [SB] at hc2
     refine wc_skip<|wt<|rg<|mv O O O<|mv O O O<|nilp O O O<|fan 0 0 un135 O sz9 (by decide) O O O O (by omega)<|st 0 sz9 hS O O O O O O (by show (0 : Nat) < 4; decide) O fun w hS =>wt<|rg<|mv O O O<|nilp O O O ?_
     refine fan 2 2 un135 O sz3 (by decide) O O O O (by omega)<|lo 0 sc3 hS O O O O O<|addi (by omega) (by omega) O O O O<|nilp O O O<|fan 2 2 un135 O sz3 (by decide) O O O O (by omega)<|st 0 sz3 hS O O O O O O (by show (2 : Nat) < 4; decide) O fun w hS =>wt<|rg<|asg O O O<|wt<|wc_ret<|fin1 (v := .bool true) O O ?_
     first | exact ⟨_, _, rfl, ⟨_, _, rfl, rfl⟩, hS⟩ | (obtain ⟨e1, e2⟩ := mv_no (mv := mvs) (ad := ad) (s := s) (fx := fx) (by simp_all); exact ⟨_, _, rfl, ⟨_, _, rfl, rfl⟩, by rw [e1, e2]; exact hS⟩) | (obtain ⟨e1, e2⟩ := mv_yes (mv := mvs) (ad := ad) (s := s) (fx := fx) (by simp_all) (by simp_all) (by simp_all); exact ⟨_, _, rfl, ⟨_, _, rfl, rfl⟩, by rw [e1, e2]; exact hS⟩)
   ·refine mpe (m := m) (a := s) 1 un133 mk133 zr3 hS O O O O O fun w hS =>lx (hS.sl 1 1) fun jj =>dx 9 O (by kernel_rfl) (fun w hS =>ext O O O O rr) jj ?_
    refine dl 6 O (by kernel_rfl)<|lku (m := mPut m s 0) (a := s) un133 mk133 zr3 O O O O (hS.get 1 O)<|lx (hS.sl 1 1) fun jj =>dx 7 O (by kernel_rfl) (fun w hS =>addw O O O O rr) jj ?_
    refine dl 10 O (by kernel_rfl)<|ens (m := mPut m s 0) (a := s) 1 (mPos m s) hS O O O O O O (mPut_has _ _ _) fun w hS =>ly O<|de (by kernel_rfl)<|wt<|wc_seq<|rg<|mv O O O<|nilp O O O<|fan 0 0 un135 O sz9 (by decide) O O O O (by omega)<|lo 0 sc9 hS O O O O O<|mv O O O ?_
    refine eqs O O O O<|wt ?_
    refine wc_if O (fun hc3 =>?_) (fun hc3 =>?_)
    ·try simp only [SB] at hc3
     refine rg<|asg O O O<|wt<|wc_ret<|q_then_ret<|fin1 (v := .bool false) O O ?_
     first | exact ⟨_, _, rfl, ⟨_, _, rfl, rfl⟩, hS⟩ | (obtain ⟨e1, e2⟩ := mv_no (mv := mvs) (ad := ad) (s := s) (fx := fx) (by simp_all); exact ⟨_, _, rfl, ⟨_, _, rfl, rfl⟩, by rw [e1, e2]; exact hS⟩) | (obtain ⟨e1, e2⟩ := mv_yes (mv := mvs) (ad := ad) (s := s) (fx := fx) (by simp_all) (by simp_all) (by simp_all); exact ⟨_, _, rfl, ⟨_, _, rfl, rfl⟩, by rw [e1, e2]; exact hS⟩)
    ·try simp only [SB] at hc3
     refine wc_skip<|wt<|rg<|mv O O O<|mv O O O<|nilp O O O<|fan 0 0 un135 O sz9 (by decide) O O O O (by omega)<|st 0 sz9 hS O O O O O O (by show (0 : Nat) < 4; decide) O fun w hS =>wt<|rg<|mv O O O<|nilp O O O ?_
     refine fan 2 2 un135 O sz3 (by decide) O O O O (by omega)<|lo 0 sc3 hS O O O O O<|addi (by omega) (by omega) O O O O<|nilp O O O<|fan 2 2 un135 O sz3 (by decide) O O O O (by omega)<|st 0 sz3 hS O O O O O O (by show (2 : Nat) < 4; decide) O fun w hS =>wt<|rg<|asg O O O<|wt<|wc_ret<|fin1 (v := .bool true) O O ?_
     first | exact ⟨_, _, rfl, ⟨_, _, rfl, rfl⟩, hS⟩ | (obtain ⟨e1, e2⟩ := mv_no (mv := mvs) (ad := ad) (s := s) (fx := fx) (by simp_all); exact ⟨_, _, rfl, ⟨_, _, rfl, rfl⟩, by rw [e1, e2]; exact hS⟩) | (obtain ⟨e1, e2⟩ := mv_yes (mv := mvs) (ad := ad) (s := s) (fx := fx) (by simp_all) (by simp_all) (by simp_all); exact ⟨_, _, rfl, ⟨_, _, rfl, rfl⟩, by rw [e1, e2]; exact hS⟩)
theorem sp_session_Session_Receive_1 (b E c : Nat) (w0 : World) (hb : w0.heap[b]? = some (.cells (#[errV 33 c]) E)) : Calls Tryz.prog 51 #[Ptr b 0] w0 (Ret w0 (errV 33 c)) := by
 refine enter (args := [Ptr b 0]) Tryz.func51 O O<|startw fun w hS =>rg<|asg O O O<|wt<|rg<|lod hb List.not_mem_nil sc27 hS O O O O<|asg O O O<|wt<|wc_ret<|fin1 (v := (errV 33 c)) O O ?_
 exact ⟨rfl, hS.drop⟩
theorem sp_echo_Echo_Take (pe E : Nat) (kv : Value) (s : UInt16) (x : UInt64) (w0 : World) (hpe : w0.heap[pe]? = some (.cells (#[kv]) E)) (hk : kv.oneCell' = true) : Calls Tryz.prog 55 #[Ptr pe 0, U16 s, U64 x] w0 (RetM w0 [pe] (fun v L' => ∃ pk, L' = [(pk, .cells #[U16 s, U64 x] 164), (pe, .cells #[Ptr pk 0] E)])) := by
 refine enter (args := [Ptr pe 0, U16 s, U64 x]) Tryz.func55 O O<|startx (F := [pe]) (L := [(pe, .cells (#[kv]) E)]) (St.starts (X := [(pe, .cells (#[kv]) E)]) (fun p hp =>by simp only [List.mem_cons, List.not_mem_nil, or_false] at hp; subst hp; exact hpe) (by simp)) fun w hS =>rg<|mv O O O<|nepn un85 O O O O<|wt<|wc_if_t O<|wc_region<|mv O O O<|mv O O O<|mv O O O<|bd (cs := #[U16 (s), U64 (x)]) O O O (by kernel_rfl) ?_
 refine bxa hS O O O fun b12 w hb12 hS =>nilp O O O<|fan 0 0 un158 O sz156 (by decide) O O O O (by omega)<|st 1 sz156 hS O O O O O O Nat.zero_lt_one O fun w hS =>q_norm_ret<|fin0 O ?_
 exact ⟨_, _, rfl, ⟨_, rfl⟩, hS⟩
theorem sp_EchoTake (pe : Nat) (kp : Option (UInt16 × UInt64)) (st : UInt16) (x : UInt64) (Z : List (Nat × Obj)) (w0 : World) (hE : EchO pe kp Z) (hZ : ∀ p ∈ Z, w0.heap[p.1]? = some p.2) (hnd : (Z.map Prod.fst).Nodup) : Calls Tryz.prog 55 #[Ptr pe 0, U16 st, U64 x] w0 (RetM w0 (Z.map Prod.fst) fun _ Y => EchO pe (some (st, x)) Y) := by
  have key : ∃ kv E, w0.heap[pe]? = some (.cells #[kv] E) ∧ kv.oneCell' = true ∧ pe ∈ Z.map Prod.fst := by
    obtain ⟨E, ⟨rfl, rfl⟩ | ⟨pk, s, t, E2, rfl, rfl⟩⟩ := hE
    · exact ⟨.pointer none, E, hZ (pe, _) (by simp), rfl, by simp⟩
    · exact ⟨Ptr pk 0, E, hZ (pe, _) (by simp), rfl, by simp⟩
  obtain ⟨kv, E, hb, hk, hm⟩ := key
  refine (sp_echo_Echo_Take pe E kv st x w0 hb hk).mono fun e w' ⟨v, L, he, ⟨pk, hL⟩, hS⟩ => ⟨v, [(pe, .cells #[Ptr pk 0] E), (pk, .cells #[U16 st, U64 x] 164)], he, ⟨E, .inr ⟨pk, st, x, _, rfl, rfl⟩⟩, ?_⟩
  subst hL
  exact (hS.wkF (by simpa using hm)).perm (List.Perm.swap ..)
theorem sp_session_Session_Receive (s : Nat) (m : SS) (X : List (Nat × Obj)) (a : Option Addr) (n cap : Nat) (bs : List UInt8) (fr : List UInt8) (x : UInt64) (w0 : World) (hO : SesO s m X) (hX : ∀ p ∈ X, w0.heap[p.1]? = some p.2) (hnd : (X.map Prod.fst).Nodup) (hn : bs.length = n) (hN : n ≤ 1000000) (hcap : n ≤ cap) (hc : CelX (X.map Prod.fst) w0 a (c8 bs)) (hG : GlX 1 (X.map Prod.fst) w0) (hB : m.ac < 1000000000 ∧ m.rf < 1000000000 ∧ m.rc < 1000000000 ∧ m.mv < 1000000000) : Calls Tryz.prog 14 #[Ptr s 0, .slice a n cap, Str fr, U64 x] w0 (RetM w0 (X.map Prod.fst) (fun v L' => ∃ a' n' c' X' Y, v = .tuple #[.slice a' n' c', errV 33 (rcvE m bs)] ∧ SesO s (rcvM m bs fr x) X' ∧ Gives a' n' c' (rcvP m bs) Y ∧ L' = X' ++ Y)) := by
 refine enter (args := [Ptr s 0, .slice a n cap, Str fr, U64 x]) Tryz.func14 O O ?_
 obtain ⟨G, hGe⟩ : ∃ G, G = X.map Prod.fst := ⟨_, rfl⟩
 rw [← hGe] at hc hG ⊢
 obtain ⟨pp, pm, pc, pf, pe, t, c, E1, E2, E3, E4, E5, E6, mm, Z, hd1, hE, hXe⟩ := hO
 subst hXe
 refine startx (F := G) (L := [(s, .cells (#[Ptr pp 0, I (((m.dir : Nat) : Int)), Ptr t 0, Ptr pc 0, Ptr pf 0, Ptr pe 0, U16 (m.rl), I (((m.rc : Nat) : Int)), U32 (m.re), U64 (m.fs), .bool (m.cz)]) E1), (pf, .cells (#[I (((m.ac : Nat) : Int)), I (((m.rf : Nat) : Int)), U64 (m.ls)]) E2), (pc, .cells (#[U64 (m.nx), U64 (m.gv), .bool (false)]) E3), (t, .cells (tableC c m.key) E4), (c, .cells (cipherC m.key) E5), (pp, .cells (#[Str m.ad, .bool (m.fx), I (((m.mv : Nat) : Int)), .map (some pm)]) E6), (pm, mOb encS vI mm)] ++ (Z ++ [])) (by rw [hGe, List.append_nil]; exact St.starts hX hnd) fun w hS =>rg<|asg O O O<|al1 zr27 hS O O O fun b9 w hb9 hS =>wt<|wc_seq<|rg<|mv O O O<|eqpn un25 O O O O<|mv O O O<|mv O O O<|nilp O O O ?_
 refine fan 10 10 un90 O sz4 (by decide) O O O O (by omega)<|lo 1 sc4 hS O O O O O<|pk_f O O O O<|wt ?_
 refine wc_if O (fun hc1 =>?_) (fun hc1 =>?_)
 ·try simp only [SB] at hc1
  have hcz : m.cz = true := hc1
  refine rg<|mki cc33 O O O<|asg O O O<|st 0 sz27 hS O O O O O O Nat.zero_lt_one O fun w hS =>wt<|wc_ret<|q_then_ret<|fin2 (v := (.slice none 0 0)) (u := (.iface 33 (I 7))) O O ⟨_, O, lv_c sc27 (hS.get 0 O) O⟩ ?_
  have eE : rcvE m bs = 7 := if_pos hcz
  have eM : rcvM m bs fr x = m := if_pos hcz
  have eP : rcvP m bs = [] := if_neg (by rw [eE]; decide)
  exact ⟨_, _, rfl, ⟨none, 0, 0, [(s, .cells (#[Ptr pp 0, I (((m.dir : Nat) : Int)), Ptr t 0, Ptr pc 0, Ptr pf 0, Ptr pe 0, U16 (m.rl), I (((m.rc : Nat) : Int)), U32 (m.re), U64 (m.fs), .bool (m.cz)]) E1), (pf, .cells (#[I (((m.ac : Nat) : Int)), I (((m.rf : Nat) : Int)), U64 (m.ls)]) E2), (pc, .cells (#[U64 (m.nx), U64 (m.gv), .bool (false)]) E3), (t, .cells (tableC c m.key) E4), (c, .cells (cipherC m.key) E5), (pp, .cells (#[Str m.ad, .bool (m.fx), I (((m.mv : Nat) : Int)), .map (some pm)]) E6), (pm, mOb encS vI mm)] ++ Z, [], by rw [eE]; rfl, by rw [eM]; exact ⟨pp, pm, pc, pf, pe, t, c, _, _, _, _, _, _, _, _, hd1, hE, rfl⟩, by rw [eP]; exact Gives.nil, rfl⟩, St.pk0 (U := [(b9, .cells (#[(.iface 33 (I (7)))]) 27)]) (B := [(s, .cells (#[Ptr pp 0, I (((m.dir : Nat) : Int)), Ptr t 0, Ptr pc 0, Ptr pf 0, Ptr pe 0, U16 (m.rl), I (((m.rc : Nat) : Int)), U32 (m.re), U64 (m.fs), .bool (m.cz)]) E1), (pf, .cells (#[I (((m.ac : Nat) : Int)), I (((m.rf : Nat) : Int)), U64 (m.ls)]) E2), (pc, .cells (#[U64 (m.nx), U64 (m.gv), .bool (false)]) E3), (t, .cells (tableC c m.key) E4), (c, .cells (cipherC m.key) E5), (pp, .cells (#[Str m.ad, .bool (m.fx), I (((m.mv : Nat) : Int)), .map (some pm)]) E6), (pm, mOb encS vI mm)]) (Z := Z) (R := []) hS⟩
 ·try simp only [SB] at hc1
  have hcz : ¬ m.cz = true := by simp [hc1]
  refine wc_skip<|wt<|rg<|mv O O O<|nilp O O O<|fan 2 2 un90 O sz77 (by decide) O O O O (by omega)<|lo 1 sc77 hS O O O O O<|mv O O O<|cs cf50 hS O O O O O (sp_packet_Decode t c m.key a n cap bs _ (⟨⟨_, hS.get 4 O⟩, _, hS.get 5 O⟩) (by first | rfl | omega | (simp; omega) | (simp; done)) (by omega) (hc _ _ hS) (by omega) (hG _ _ hS)) ?_
  rintro _ X31 w ⟨a31, n31, c31, rfl, hl31, hm31, hc31, hR31⟩ hS
  have hS := St.tailin (X := X31) hS [(b9, .cells (#[.nilIface]) 27), (s, .cells (#[Ptr pp 0, I (((m.dir : Nat) : Int)), Ptr t 0, Ptr pc 0, Ptr pf 0, Ptr pe 0, U16 (m.rl), I (((m.rc : Nat) : Int)), U32 (m.re), U64 (m.fs), .bool (m.cz)]) E1), (pf, .cells (#[I (((m.ac : Nat) : Int)), I (((m.rf : Nat) : Int)), U64 (m.ls)]) E2), (pc, .cells (#[U64 (m.nx), U64 (m.gv), .bool (false)]) E3), (t, .cells (tableC c m.key) E4), (c, .cells (cipherC m.key) E5), (pp, .cells (#[Str m.ad, .bool (m.fx), I (((m.mv : Nat) : Int)), .map (some pm)]) E6), (pm, mOb encS vI mm)] (Z ++ []) rfl
  have hS : St w0 G ([(b9, .cells (#[.nilIface]) 27), (s, .cells (#[Ptr pp 0, I (((m.dir : Nat) : Int)), Ptr t 0, Ptr pc 0, Ptr pf 0, Ptr pe 0, U16 (m.rl), I (((m.rc : Nat) : Int)), U32 (m.re), U64 (m.fs), .bool (m.cz)]) E1), (pf, .cells (#[I (((m.ac : Nat) : Int)), I (((m.rf : Nat) : Int)), U64 (m.ls)]) E2), (pc, .cells (#[U64 (m.nx), U64 (m.gv), .bool (false)]) E3), (t, .cells (tableC c m.key) E4), (c, .cells (cipherC m.key) E5), (pp, .cells (#[Str m.ad, .bool (m.fx), I (((m.mv : Nat) : Int)), .map (some pm)]) E6), (pm, mOb encS vI mm)] ++ (Z ++ (X31 ++ []))) w := St.swapT (A := [(b9, .cells (#[.nilIface]) 27), (s, .cells (#[Ptr pp 0, I (((m.dir : Nat) : Int)), Ptr t 0, Ptr pc 0, Ptr pf 0, Ptr pe 0, U16 (m.rl), I (((m.rc : Nat) : Int)), U32 (m.re), U64 (m.fs), .bool (m.cz)]) E1), (pf, .cells (#[I (((m.ac : Nat) : Int)), I (((m.rf : Nat) : Int)), U64 (m.ls)]) E2), (pc, .cells (#[U64 (m.nx), U64 (m.gv), .bool (false)]) E3), (t, .cells (tableC c m.key) E4), (c, .cells (cipherC m.key) E5), (pp, .cells (#[Str m.ad, .bool (m.fx), I (((m.mv : Nat) : Int)), .map (some pm)]) E6), (pm, mOb encS vI mm)]) (X := X31) (Z := Z) (R := []) hS
  refine mv O O O<|ext O O O O<|ext O O O O<|ala zr100 hS O O fun b10 w hb10 hS =>sa 0 ag100 hS O O O (by kernel_rfl) O O O fun w hS =>st 1 sz27 hS O O O (errV_one _ _) (errV_cells _ _) O Nat.zero_lt_one O fun w hS =>wt<|rg<|mkf O O O<|asg O O O<|wt<|wc_seq ?_
  refine rd mo 20 (fun w =>St w0 G [(b10, .cells (#[I (((dcdD m.key bs : Nat) : Int)), U64 (dcdS m.key bs), U16 (dcdT m.key bs), U16 (dcdM m.key bs), .slice a31 n31 c31]) 100), (s, .cells (#[Ptr pp 0, I (((m.dir : Nat) : Int)), Ptr t 0, Ptr pc 0, Ptr pf 0, Ptr pe 0, U16 (m.rl), I (((m.rc : Nat) : Int)), U32 (m.re), U64 (m.fs), .bool (m.cz)]) E1)] w)<|have hS := hS.drew; jx (hS.sl 3 5) fun jj =>dx 0 O (by kernel_rfl) (fun w hS =>mv O O O rr) jj<|dx 1 O (by kernel_rfl) (fun w hS =>fan 0 0 un100 O sz3 (by decide) O O O O (by omega) rr) jj<|dx 2 O (by kernel_rfl) (fun w hS =>lo 0 sc3 hS O O O O O rr) jj<|dx 3 O (by kernel_rfl) (fun w hS =>mv O O O rr) jj<|dx 4 O (by kernel_rfl) (fun w hS =>nilp O O O rr) jj<|dx 5 O (by kernel_rfl) (fun w hS =>fan 1 1 un90 O sz3 (by decide) O O O O (by omega) rr) jj<|dx 6 O (by kernel_rfl) (fun w hS =>lo 1 sc3 hS O O O O O rr) jj<|dx 7 O (by kernel_rfl) (fun w hS =>eqi O O O O rr) jj<|dx 9 O (by kernel_rfl) (fun w hS =>mv O O O rr) jj<|dx 10 O (by kernel_rfl) (fun w hS =>nilp O O O rr) jj ?_
  refine dx 11 O (by kernel_rfl) (fun w hS =>fan 4 4 un90 O sz83 (by decide) O O O O (by omega) rr) jj<|dx 12 O (by kernel_rfl) (fun w hS =>lo 1 sc83 hS O O O O O rr) jj<|dx 13 O (by kernel_rfl) (fun w hS =>fan 1 1 un100 O sz24 (by decide) O O O O (by omega) rr) jj<|dx 14 O (by kernel_rfl) (fun w hS =>lo 0 sc24 hS O O O O O rr) jj ?_
  refine dl 8 O (by kernel_rfl)<|cs cf35 hS O O O O O (sp_session_when (((((dcdD m.key bs : Nat) : Int) : Int) == ((m.dir : Nat) : Int))) 8 _) ?_
  rintro _ _ w ⟨p43, q43, rfl, rfl⟩ hS
  refine lx (hS.sl 5 20) fun jj =>?_
  refine dl 15 O (by kernel_rfl)<|cv cf52 hS O O O O O (sp_filter_Filter_Fresh pf _ m.ac m.rf m.ls ((dcdS m.key bs)) _ (hS.get 5 O)) fun w hS =>lx (hS.sl 5 20) fun jj =>dx 16 O (by kernel_rfl) (fun w hS =>notb O O O rr) jj ?_
  refine dl 17 O (by kernel_rfl)<|cs cf35 hS O O O O O (sp_session_when ((!(frsh m.ls (dcdS m.key bs)))) 9 _) ?_
  rintro _ _ w ⟨p52, q52, rfl, rfl⟩ hS
  refine lx (hS.sl 7 80) fun jj =>?_
  refine dl 18 O (by kernel_rfl)<|bsl (cs := #[.func (.func 51) #[] #[Ptr b9 0], .func (.func 78) #[] #[Ptr p43 0, Ptr q43 0], .func (.func 78) #[] #[Ptr p52 0, Ptr q52 0]]) sl160 hS O O O O (by kernel_rfl) fun b53 w hb53 hS =>lx (hS.sl 8 160) fun jj =>?_
  refine dl 19 O (by kernel_rfl) ?_
  refine cv cf34 hS rfl rfl rfl rfl rfl (sp_session_first b53 95 3 _ (nth4 51 78 78 78) (nth4 ([Ptr b9 0]) ([Ptr p43 0, Ptr q43 0]) ([Ptr p52 0, Ptr q52 0]) ([Ptr p52 0, Ptr q52 0])) (nth4 (dcdE m.key bs) (if ((((dcdD m.key bs : Nat) : Int) : Int) == ((m.dir : Nat) : Int)) = true then 8 else 0) (if (!(frsh m.ls (dcdS m.key bs))) = true then 9 else 0) 0) _ (by omega) (hS.get 0 rfl) (fun k hk => by rcases (show k = 0 ∨ k = 1 ∨ k = 2 by omega) with rfl | rfl | rfl <;> rfl) (fun k hk => by rcases (show k = 0 ∨ k = 1 ∨ k = 2 by omega) with rfl | rfl | rfl <;> first | exact cf51 | exact cf78) (fun k hk W hW => by
    rcases (show k = 0 ∨ k = 1 ∨ k = 2 by omega) with rfl | rfl | rfl
    ·exact sp_session_Session_Receive_1 b9 _ (dcdE m.key bs) W (hW.old (hS.get 6 rfl) List.not_mem_nil)
    ·exact sp_session_when_1 p43 _ q43 _ ((((dcdD m.key bs : Nat) : Int) : Int) == ((m.dir : Nat) : Int)) 8 W (hW.old (hS.get 4 rfl) List.not_mem_nil) (hW.old (hS.get 3 rfl) List.not_mem_nil) (by decide)
    ·exact sp_session_when_1 p52 _ q52 _ (!(frsh m.ls (dcdS m.key bs))) 9 W (hW.old (hS.get 2 rfl) List.not_mem_nil) (hW.old (hS.get 1 rfl) List.not_mem_nil) (by decide))) ?_
  intro w hS
  refine lx (hS.sl 8 160) fun jj =>?_
  refine dl 20 O (by kernel_rfl)<|asg O O O<|ly O<|de (by kernel_rfl)<|wt<|rg<|mv O O O<|neE (C := 33) (c := (fstE (nth4 (dcdE m.key bs) (if ((((dcdD m.key bs : Nat) : Int) : Int) == ((m.dir : Nat) : Int)) = true then 8 else 0) (if (!(frsh m.ls (dcdS m.key bs))) = true then 9 else 0) 0) 3)) un27 O O O<|wt ?_
  refine wc_if O (fun hc2 =>?_) (fun hc2 =>?_)
  ·try simp only [SB] at hc2
   have hE2 : ¬ rcvE m bs = 0 := by simpa [rcvE, hcz] using hc2
   refine rg<|mv O O O<|nilp O O O<|fan 4 4 un90 O sz83 (by decide) O O O O (by omega)<|lo 7 sc83 hS O O O O O<|cm cf53 O O O O O (sp_filter_Filter_Refuse pf _ m.ac m.rf m.ls _ (hS.get 8 O) (by omega)) ?_
   rintro _ _ w rfl hS1
   have hS : St w0 G ([(b53, .cells (#[.func (.func 51) #[] #[Ptr b9 0], .func (.func 78) #[] #[Ptr p43 0, Ptr q43 0], .func (.func 78) #[] #[Ptr p52 0, Ptr q52 0]]) 95), (q52, .cells (#[I (9)]) 33), (p52, .cells (#[.bool ((!(frsh m.ls (dcdS m.key bs))))]) 4), (q43, .cells (#[I (8)]) 33), (p43, .cells (#[.bool (((((dcdD m.key bs : Nat) : Int) : Int) == ((m.dir : Nat) : Int)))]) 4), (b10, .cells (#[I (((dcdD m.key bs : Nat) : Int)), U64 (dcdS m.key bs), U16 (dcdT m.key bs), U16 (dcdM m.key bs), .slice a31 n31 c31]) 100), (b9, .cells (#[(errV 33 (dcdE m.key bs))]) 27), (s, .cells (#[Ptr pp 0, I (((m.dir : Nat) : Int)), Ptr t 0, Ptr pc 0, Ptr pf 0, Ptr pe 0, U16 (m.rl), I (((m.rc : Nat) : Int)), U32 (m.re), U64 (m.fs), .bool (m.cz)]) E1), (pf, .cells (#[I ((m.ac : Int)), I (((m.rf + 1 : Nat) : Int)), U64 (m.ls)]) E2), (pc, .cells (#[U64 (m.nx), U64 (m.gv), .bool (false)]) E3), (t, .cells (tableC c m.key) E4), (c, .cells (cipherC m.key) E5), (pp, .cells (#[Str m.ad, .bool (m.fx), I (((m.mv : Nat) : Int)), .map (some pm)]) E6), (pm, mOb encS vI mm)] ++ (Z ++ (X31 ++ []))) w := St.calls (L1 := [(pf, .cells (#[I (((m.ac : Nat) : Int)), I (((m.rf : Nat) : Int)), U64 (m.ls)]) E2)]) (N := [(pf, .cells (#[I ((m.ac : Int)), I (((m.rf + 1 : Nat) : Int)), U64 (m.ls)]) E2)]) (L2 := []) hS [8] rfl rfl hS1
   refine wt<|rg<|mv O O O<|asg O O O<|st 6 sz27 hS O O O (errV_one _ _) (errV_cells _ _) O Nat.zero_lt_one O fun w hS =>wt<|wc_ret<|q_then_ret<|fin2 (v := (.slice none 0 0)) (u := (errV 33 (fstE (nth4 (dcdE m.key bs) (if ((((dcdD m.key bs : Nat) : Int) : Int) == ((m.dir : Nat) : Int)) = true then 8 else 0) (if (!(frsh m.ls (dcdS m.key bs))) = true then 9 else 0) 0) 3))) O O ⟨_, O, lv_c sc27 (hS.get 6 O) O⟩ ?_
   have eM : rcvM m bs fr x = { m with rf := m.rf + 1 } := by rw [rcvM, if_neg hcz, if_neg hE2]
   have eP : rcvP m bs = [] := if_neg hE2
   skip
   exact ⟨_, _, rfl, ⟨none, 0, 0, [(s, .cells (#[Ptr pp 0, I (((m.dir : Nat) : Int)), Ptr t 0, Ptr pc 0, Ptr pf 0, Ptr pe 0, U16 (m.rl), I (((m.rc : Nat) : Int)), U32 (m.re), U64 (m.fs), .bool (m.cz)]) E1), (pf, .cells (#[I ((m.ac : Int)), I (((m.rf + 1 : Nat) : Int)), U64 (m.ls)]) E2), (pc, .cells (#[U64 (m.nx), U64 (m.gv), .bool (false)]) E3), (t, .cells (tableC c m.key) E4), (c, .cells (cipherC m.key) E5), (pp, .cells (#[Str m.ad, .bool (m.fx), I (((m.mv : Nat) : Int)), .map (some pm)]) E6), (pm, mOb encS vI mm)] ++ Z, [], by rw [rcvE_o hcz], by rw [eM]; exact ⟨pp, pm, pc, pf, pe, t, c, _, _, _, _, _, _, _, _, hd1, hE, rfl⟩, by rw [eP]; exact Gives.nil, rfl⟩, St.pk0 (U := [(b53, .cells (#[.func (.func 51) #[] #[Ptr b9 0], .func (.func 78) #[] #[Ptr p43 0, Ptr q43 0], .func (.func 78) #[] #[Ptr p52 0, Ptr q52 0]]) 95), (q52, .cells (#[I (9)]) 33), (p52, .cells (#[.bool ((!(frsh m.ls (dcdS m.key bs))))]) 4), (q43, .cells (#[I (8)]) 33), (p43, .cells (#[.bool (((((dcdD m.key bs : Nat) : Int) : Int) == ((m.dir : Nat) : Int)))]) 4), (b10, .cells (#[I (((dcdD m.key bs : Nat) : Int)), U64 (dcdS m.key bs), U16 (dcdT m.key bs), U16 (dcdM m.key bs), .slice a31 n31 c31]) 100), (b9, .cells (#[(errV 33 (fstE (nth4 (dcdE m.key bs) (if ((((dcdD m.key bs : Nat) : Int) : Int) == ((m.dir : Nat) : Int)) = true then 8 else 0) (if (!(frsh m.ls (dcdS m.key bs))) = true then 9 else 0) 0) 3))]) 27)]) (B := [(s, .cells (#[Ptr pp 0, I (((m.dir : Nat) : Int)), Ptr t 0, Ptr pc 0, Ptr pf 0, Ptr pe 0, U16 (m.rl), I (((m.rc : Nat) : Int)), U32 (m.re), U64 (m.fs), .bool (m.cz)]) E1), (pf, .cells (#[I ((m.ac : Int)), I (((m.rf + 1 : Nat) : Int)), U64 (m.ls)]) E2), (pc, .cells (#[U64 (m.nx), U64 (m.gv), .bool (false)]) E3), (t, .cells (tableC c m.key) E4), (c, .cells (cipherC m.key) E5), (pp, .cells (#[Str m.ad, .bool (m.fx), I (((m.mv : Nat) : Int)), .map (some pm)]) E6), (pm, mOb encS vI mm)]) (Z := Z) (R := (X31 ++ [])) hS⟩
  ·try simp only [SB] at hc2
   have hE2 : rcvE m bs = 0 := by simpa [rcvE, hcz] using hc2
   obtain ⟨h1, h2, h3⟩ := fst3_0.1 ((rcvE_o hcz).symm.trans hE2)
   have hfr : frsh m.ls (dcdS m.key bs) = true := by simpa using h3
   refine wc_skip<|wt<|wc_seq<|rd mo 7 (fun w =>St w0 G [(b10, .cells (#[I (((dcdD m.key bs : Nat) : Int)), U64 (dcdS m.key bs), U16 (dcdT m.key bs), U16 (dcdM m.key bs), .slice a31 n31 c31]) 100), (s, .cells (#[Ptr pp 0, I (((m.dir : Nat) : Int)), Ptr t 0, Ptr pc 0, Ptr pf 0, Ptr pe 0, U16 (m.rl), I (((m.rc : Nat) : Int)), U32 (m.re), U64 (m.fs), .bool (m.cz)]) E1)] w)<|have hS := hS.drew; jx (hS.sl 8 160) fun jj =>dx 0 O (by kernel_rfl) (fun w hS =>mv O O O rr) jj<|dx 1 O (by kernel_rfl) (fun w hS =>nilp O O O rr) jj<|dx 2 O (by kernel_rfl) (fun w hS =>fan 4 4 un90 O sz83 (by decide) O O O O (by omega) rr) jj<|dx 3 O (by kernel_rfl) (fun w hS =>lo 1 sc83 hS O O O O O rr) jj<|dx 4 O (by kernel_rfl) (fun w hS =>fan 1 1 un100 O sz24 (by decide) O O O O (by omega) rr) jj<|dx 5 O (by kernel_rfl) (fun w hS =>lo 0 sc24 hS O O O O O rr) jj ?_
   refine dl 6 O (by kernel_rfl)<|cm cf54 O O O O O (sp_filter_Filter_Accept pf _ m.ac m.rf m.ls ((dcdS m.key bs)) _ (hS.get 8 O) (by omega) (by assumption)) ?_
   rintro _ _ w ⟨rfl, rfl⟩ hS1
   have hS : St w0 G ([(b53, .cells (#[.func (.func 51) #[] #[Ptr b9 0], .func (.func 78) #[] #[Ptr p43 0, Ptr q43 0], .func (.func 78) #[] #[Ptr p52 0, Ptr q52 0]]) 95), (q52, .cells (#[I (9)]) 33), (p52, .cells (#[.bool ((!(frsh m.ls (dcdS m.key bs))))]) 4), (q43, .cells (#[I (8)]) 33), (p43, .cells (#[.bool (((((dcdD m.key bs : Nat) : Int) : Int) == ((m.dir : Nat) : Int)))]) 4), (b10, .cells (#[I (((dcdD m.key bs : Nat) : Int)), U64 (dcdS m.key bs), U16 (dcdT m.key bs), U16 (dcdM m.key bs), .slice a31 n31 c31]) 100), (b9, .cells (#[(errV 33 (dcdE m.key bs))]) 27), (s, .cells (#[Ptr pp 0, I (((m.dir : Nat) : Int)), Ptr t 0, Ptr pc 0, Ptr pf 0, Ptr pe 0, U16 (m.rl), I (((m.rc : Nat) : Int)), U32 (m.re), U64 (m.fs), .bool (m.cz)]) E1), (pf, .cells (#[I (((m.ac + 1 : Nat) : Int)), I ((m.rf : Int)), U64 ((dcdS m.key bs) + 1)]) E2), (pc, .cells (#[U64 (m.nx), U64 (m.gv), .bool (false)]) E3), (t, .cells (tableC c m.key) E4), (c, .cells (cipherC m.key) E5), (pp, .cells (#[Str m.ad, .bool (m.fx), I (((m.mv : Nat) : Int)), .map (some pm)]) E6), (pm, mOb encS vI mm)] ++ (Z ++ (X31 ++ []))) w := St.calls (L1 := [(pf, .cells (#[I (((m.ac : Nat) : Int)), I (((m.rf : Nat) : Int)), U64 (m.ls)]) E2)]) (N := [(pf, .cells (#[I (((m.ac + 1 : Nat) : Int)), I ((m.rf : Int)), U64 ((dcdS m.key bs) + 1)]) E2)]) (L2 := []) hS [8] rfl rfl hS1
   refine lx (hS.sl 8 160) fun jj =>?_
   refine dl 7 O (by kernel_rfl)<|asg O O O<|ly O<|de (by kernel_rfl)<|wt<|rg<|mv O O O<|neE (C := 33) (c := 0) un27 O O O<|wt ?_
   refine wc_if O (fun hc3 =>?_) (fun hc3 =>?_)
   ·try simp only [SB] at hc3
    exact absurd rfl hc3
   ·try simp only [SB] at hc3
    refine wc_skip<|wt<|rd mo 8 (fun w =>St w0 G [(b10, .cells (#[I (((dcdD m.key bs : Nat) : Int)), U64 (dcdS m.key bs), U16 (dcdT m.key bs), U16 (dcdM m.key bs), .slice a31 n31 c31]) 100), (s, .cells (#[Ptr pp 0, I (((m.dir : Nat) : Int)), Ptr t 0, Ptr pc 0, Ptr pf 0, Ptr pe 0, U16 (m.rl), I (((m.rc : Nat) : Int)), U32 (m.re), U64 (m.fs), .bool (m.cz)]) E1)] w)<|have hS := hS.drew; jx (hS.sl 8 160) fun jj =>dx 0 O (by kernel_rfl) (fun w hS =>mv O O O rr) jj<|dx 1 O (by kernel_rfl) (fun w hS =>nilp O O O rr) jj<|dx 2 O (by kernel_rfl) (fun w hS =>fan 5 5 un90 O sz85 (by decide) O O O O (by omega) rr) jj<|dx 3 O (by kernel_rfl) (fun w hS =>lo 1 sc85 hS O O O O O rr) jj<|dx 4 O (by kernel_rfl) (fun w hS =>fan 2 2 un100 O sz36 (by decide) O O O O (by omega) rr) jj<|dx 5 O (by kernel_rfl) (fun w hS =>lo 0 sc36 hS O O O O O rr) jj<|dx 6 O (by kernel_rfl) (fun w hS =>mv O O O rr) jj ?_
    refine dl 7 O (by kernel_rfl)<|cm cf55 O O O O O (sp_EchoTake pe m.kp (dcdT m.key bs) x Z _ hE (St.memT (A := [(b53, .cells (#[.func (.func 51) #[] #[Ptr b9 0], .func (.func 78) #[] #[Ptr p43 0, Ptr q43 0], .func (.func 78) #[] #[Ptr p52 0, Ptr q52 0]]) 95), (q52, .cells (#[I (9)]) 33), (p52, .cells (#[.bool ((!(frsh m.ls (dcdS m.key bs))))]) 4), (q43, .cells (#[I (8)]) 33), (p43, .cells (#[.bool (((((dcdD m.key bs : Nat) : Int) : Int) == ((m.dir : Nat) : Int)))]) 4), (b10, .cells (#[I (((dcdD m.key bs : Nat) : Int)), U64 (dcdS m.key bs), U16 (dcdT m.key bs), U16 (dcdM m.key bs), .slice a31 n31 c31]) 100), (b9, .cells (#[(errV 33 (dcdE m.key bs))]) 27), (s, .cells (#[Ptr pp 0, I (((m.dir : Nat) : Int)), Ptr t 0, Ptr pc 0, Ptr pf 0, Ptr pe 0, U16 (m.rl), I (((m.rc : Nat) : Int)), U32 (m.re), U64 (m.fs), .bool (m.cz)]) E1), (pf, .cells (#[I (((m.ac + 1 : Nat) : Int)), I ((m.rf : Int)), U64 ((dcdS m.key bs) + 1)]) E2), (pc, .cells (#[U64 (m.nx), U64 (m.gv), .bool (false)]) E3), (t, .cells (tableC c m.key) E4), (c, .cells (cipherC m.key) E5), (pp, .cells (#[Str m.ad, .bool (m.fx), I (((m.mv : Nat) : Int)), .map (some pm)]) E6), (pm, mOb encS vI mm)]) (X := Z) (R := (X31 ++ [])) hS) (St.nodupT (A := [(b53, .cells (#[.func (.func 51) #[] #[Ptr b9 0], .func (.func 78) #[] #[Ptr p43 0, Ptr q43 0], .func (.func 78) #[] #[Ptr p52 0, Ptr q52 0]]) 95), (q52, .cells (#[I (9)]) 33), (p52, .cells (#[.bool ((!(frsh m.ls (dcdS m.key bs))))]) 4), (q43, .cells (#[I (8)]) 33), (p43, .cells (#[.bool (((((dcdD m.key bs : Nat) : Int) : Int) == ((m.dir : Nat) : Int)))]) 4), (b10, .cells (#[I (((dcdD m.key bs : Nat) : Int)), U64 (dcdS m.key bs), U16 (dcdT m.key bs), U16 (dcdM m.key bs), .slice a31 n31 c31]) 100), (b9, .cells (#[(errV 33 (dcdE m.key bs))]) 27), (s, .cells (#[Ptr pp 0, I (((m.dir : Nat) : Int)), Ptr t 0, Ptr pc 0, Ptr pf 0, Ptr pe 0, U16 (m.rl), I (((m.rc : Nat) : Int)), U32 (m.re), U64 (m.fs), .bool (m.cz)]) E1), (pf, .cells (#[I (((m.ac + 1 : Nat) : Int)), I ((m.rf : Int)), U64 ((dcdS m.key bs) + 1)]) E2), (pc, .cells (#[U64 (m.nx), U64 (m.gv), .bool (false)]) E3), (t, .cells (tableC c m.key) E4), (c, .cells (cipherC m.key) E5), (pp, .cells (#[Str m.ad, .bool (m.fx), I (((m.mv : Nat) : Int)), .map (some pm)]) E6), (pm, mOb encS vI mm)]) (X := Z) (R := (X31 ++ [])) hS)) ?_
    rintro _ Y80 w hE1 hS1
    have hS : St w0 G ([(b53, .cells (#[.func (.func 51) #[] #[Ptr b9 0], .func (.func 78) #[] #[Ptr p43 0, Ptr q43 0], .func (.func 78) #[] #[Ptr p52 0, Ptr q52 0]]) 95), (q52, .cells (#[I (9)]) 33), (p52, .cells (#[.bool ((!(frsh m.ls (dcdS m.key bs))))]) 4), (q43, .cells (#[I (8)]) 33), (p43, .cells (#[.bool (((((dcdD m.key bs : Nat) : Int) : Int) == ((m.dir : Nat) : Int)))]) 4), (b10, .cells (#[I (((dcdD m.key bs : Nat) : Int)), U64 (dcdS m.key bs), U16 (dcdT m.key bs), U16 (dcdM m.key bs), .slice a31 n31 c31]) 100), (b9, .cells (#[(errV 33 (dcdE m.key bs))]) 27), (s, .cells (#[Ptr pp 0, I (((m.dir : Nat) : Int)), Ptr t 0, Ptr pc 0, Ptr pf 0, Ptr pe 0, U16 (m.rl), I (((m.rc : Nat) : Int)), U32 (m.re), U64 (m.fs), .bool (m.cz)]) E1), (pf, .cells (#[I (((m.ac + 1 : Nat) : Int)), I ((m.rf : Int)), U64 ((dcdS m.key bs) + 1)]) E2), (pc, .cells (#[U64 (m.nx), U64 (m.gv), .bool (false)]) E3), (t, .cells (tableC c m.key) E4), (c, .cells (cipherC m.key) E5), (pp, .cells (#[Str m.ad, .bool (m.fx), I (((m.mv : Nat) : Int)), .map (some pm)]) E6), (pm, mOb encS vI mm)] ++ (Y80 ++ (X31 ++ []))) w := St.callX (A := [(b53, .cells (#[.func (.func 51) #[] #[Ptr b9 0], .func (.func 78) #[] #[Ptr p43 0, Ptr q43 0], .func (.func 78) #[] #[Ptr p52 0, Ptr q52 0]]) 95), (q52, .cells (#[I (9)]) 33), (p52, .cells (#[.bool ((!(frsh m.ls (dcdS m.key bs))))]) 4), (q43, .cells (#[I (8)]) 33), (p43, .cells (#[.bool (((((dcdD m.key bs : Nat) : Int) : Int) == ((m.dir : Nat) : Int)))]) 4), (b10, .cells (#[I (((dcdD m.key bs : Nat) : Int)), U64 (dcdS m.key bs), U16 (dcdT m.key bs), U16 (dcdM m.key bs), .slice a31 n31 c31]) 100), (b9, .cells (#[(errV 33 (dcdE m.key bs))]) 27), (s, .cells (#[Ptr pp 0, I (((m.dir : Nat) : Int)), Ptr t 0, Ptr pc 0, Ptr pf 0, Ptr pe 0, U16 (m.rl), I (((m.rc : Nat) : Int)), U32 (m.re), U64 (m.fs), .bool (m.cz)]) E1), (pf, .cells (#[I (((m.ac + 1 : Nat) : Int)), I ((m.rf : Int)), U64 ((dcdS m.key bs) + 1)]) E2), (pc, .cells (#[U64 (m.nx), U64 (m.gv), .bool (false)]) E3), (t, .cells (tableC c m.key) E4), (c, .cells (cipherC m.key) E5), (pp, .cells (#[Str m.ad, .bool (m.fx), I (((m.mv : Nat) : Int)), .map (some pm)]) E6), (pm, mOb encS vI mm)]) (X := Z) (R := (X31 ++ [])) hS hS1
    refine lx (hS.sl 8 160) fun jj =>de (by kernel_rfl)<|wt<|wc_seq<|rd mo 9 (fun w =>St w0 G [(b10, .cells (#[I (((dcdD m.key bs : Nat) : Int)), U64 (dcdS m.key bs), U16 (dcdT m.key bs), U16 (dcdM m.key bs), .slice a31 n31 c31]) 100)] w)<|have hS := hS.drew; jx (hS.sl 6 32) fun jj =>dx 0 O (by kernel_rfl) (fun w hS =>mv O O O rr) jj<|dx 2 O (by kernel_rfl) (fun w hS =>fan 3 3 un100 O sz36 (by decide) O O O O (by omega) rr) jj<|dx 3 O (by kernel_rfl) (fun w hS =>lo 0 sc36 hS O O O O O rr) jj ?_
    refine dl 1 O (by kernel_rfl)<|cv cf37 hS O O O O O (sp_stamp_Of x _) fun w hS =>lx (hS.sl 6 32) fun jj =>?_
    refine dl 4 O (by kernel_rfl)<|cv cf56 hS O O O O O (sp_stamp_Sample ((ofT x)) ((dcdM m.key bs)) _) fun w hS =>lx (hS.sl 6 32) fun jj =>dx 5 O (by kernel_rfl) (fun w hS =>mv O O O rr) jj<|dx 6 O (by kernel_rfl) (fun w hS =>ext O O O O rr) jj<|dx 7 O (by kernel_rfl) (fun w hS =>ext O O O O rr) jj<|dx 8 O (by kernel_rfl) (fun w hS =>asg O O O rr) jj ?_
    refine dl 9 O (by kernel_rfl)<|asg O O O<|ly O<|de (by kernel_rfl)<|wt<|rg<|mv O O O<|wt ?_
    refine wc_if O (fun hc4 =>?_) (fun hc4 =>?_)
    ·try simp only [SB] at hc4
     have hM : ¬ dcdM m.key bs = 65535 := by simpa using hc4
     refine wc_region<|mv O O O<|nilp O O O<|fan 6 6 un90 O sz88 (by decide) O O O O (by omega)<|mv O O O<|cm cf57 O O O O O (sp_echo_Rtt_Add s _ _ _ _ _ _ _ _ _ _ _ _ ((smpV (ofT x) (dcdM m.key bs))) _ (hS.get 7 O) (by omega)) ?_
     rintro _ _ w rfl hS1
     have hS : St w0 G ([(b53, .cells (#[.func (.func 51) #[] #[Ptr b9 0], .func (.func 78) #[] #[Ptr p43 0, Ptr q43 0], .func (.func 78) #[] #[Ptr p52 0, Ptr q52 0]]) 95), (q52, .cells (#[I (9)]) 33), (p52, .cells (#[.bool ((!(frsh m.ls (dcdS m.key bs))))]) 4), (q43, .cells (#[I (8)]) 33), (p43, .cells (#[.bool (((((dcdD m.key bs : Nat) : Int) : Int) == ((m.dir : Nat) : Int)))]) 4), (b10, .cells (#[I (((dcdD m.key bs : Nat) : Int)), U64 (dcdS m.key bs), U16 (dcdT m.key bs), U16 (dcdM m.key bs), .slice a31 n31 c31]) 100), (b9, .cells (#[(errV 33 (dcdE m.key bs))]) 27), (s, .cells (#[Ptr pp 0, I (((m.dir : Nat) : Int)), Ptr t 0, Ptr pc 0, Ptr pf 0, Ptr pe 0, U16 ((smpV (ofT x) (dcdM m.key bs))), I (((m.rc + 1 : Nat) : Int)), U32 (estN m.rc m.re (smpV (ofT x) (dcdM m.key bs))), U64 (m.fs), .bool (m.cz)]) E1), (pf, .cells (#[I (((m.ac + 1 : Nat) : Int)), I ((m.rf : Int)), U64 ((dcdS m.key bs) + 1)]) E2), (pc, .cells (#[U64 (m.nx), U64 (m.gv), .bool (false)]) E3), (t, .cells (tableC c m.key) E4), (c, .cells (cipherC m.key) E5), (pp, .cells (#[Str m.ad, .bool (m.fx), I (((m.mv : Nat) : Int)), .map (some pm)]) E6), (pm, mOb encS vI mm)] ++ (Y80 ++ (X31 ++ []))) w := St.calls (L1 := [(s, .cells (#[Ptr pp 0, I (((m.dir : Nat) : Int)), Ptr t 0, Ptr pc 0, Ptr pf 0, Ptr pe 0, U16 (m.rl), I (((m.rc : Nat) : Int)), U32 (m.re), U64 (m.fs), .bool (m.cz)]) E1)]) (N := [(s, .cells (#[Ptr pp 0, I (((m.dir : Nat) : Int)), Ptr t 0, Ptr pc 0, Ptr pf 0, Ptr pe 0, U16 ((smpV (ofT x) (dcdM m.key bs))), I (((m.rc + 1 : Nat) : Int)), U32 (estN m.rc m.re (smpV (ofT x) (dcdM m.key bs))), U64 (m.fs), .bool (m.cz)]) E1)]) (L2 := []) hS [7] rfl rfl hS1
     refine wt<|rg<|mv O O O<|nilp O O O<|fan 0 0 un90 O sz76 (by decide) O O O O (by omega)<|lo 7 sc76 hS O O O O O<|mv O O O<|cm cf58 O O O O O (sp_peer_Peer_Move pp _ pm m.ad m.fx m.mv _ fr _ (hS.get 12 O) (hS.get 13 O) (nd_of hS [12, 13] O (by decide)) (by omega)) ?_
     rintro _ _ w ⟨b100, m100, rfl, rfl⟩ hS1
     have hS : St w0 G ([(b53, .cells (#[.func (.func 51) #[] #[Ptr b9 0], .func (.func 78) #[] #[Ptr p43 0, Ptr q43 0], .func (.func 78) #[] #[Ptr p52 0, Ptr q52 0]]) 95), (q52, .cells (#[I (9)]) 33), (p52, .cells (#[.bool ((!(frsh m.ls (dcdS m.key bs))))]) 4), (q43, .cells (#[I (8)]) 33), (p43, .cells (#[.bool (((((dcdD m.key bs : Nat) : Int) : Int) == ((m.dir : Nat) : Int)))]) 4), (b10, .cells (#[I (((dcdD m.key bs : Nat) : Int)), U64 (dcdS m.key bs), U16 (dcdT m.key bs), U16 (dcdM m.key bs), .slice a31 n31 c31]) 100), (b9, .cells (#[(errV 33 (dcdE m.key bs))]) 27), (s, .cells (#[Ptr pp 0, I (((m.dir : Nat) : Int)), Ptr t 0, Ptr pc 0, Ptr pf 0, Ptr pe 0, U16 ((smpV (ofT x) (dcdM m.key bs))), I (((m.rc + 1 : Nat) : Int)), U32 (estN m.rc m.re (smpV (ofT x) (dcdM m.key bs))), U64 (m.fs), .bool (m.cz)]) E1), (pf, .cells (#[I (((m.ac + 1 : Nat) : Int)), I ((m.rf : Int)), U64 ((dcdS m.key bs) + 1)]) E2), (pc, .cells (#[U64 (m.nx), U64 (m.gv), .bool (false)]) E3), (t, .cells (tableC c m.key) E4), (c, .cells (cipherC m.key) E5), (pp, .cells (#[Str (mvA m.fx m.ad fr), .bool (m.fx), I (((mvN m.fx m.ad fr m.mv : Nat) : Int)), .map (some pm)]) E6), (pm, mOb encS vI m100)] ++ (Y80 ++ (X31 ++ []))) w := St.calls (L1 := [(pp, .cells (#[Str m.ad, .bool (m.fx), I (((m.mv : Nat) : Int)), .map (some pm)]) E6), (pm, mOb encS vI mm)]) (N := [(pp, .cells (#[Str (mvA m.fx m.ad fr), .bool (m.fx), I (((mvN m.fx m.ad fr m.mv : Nat) : Int)), .map (some pm)]) E6), (pm, mOb encS vI m100)]) (L2 := []) hS [12, 13] rfl rfl hS1
     refine wt<|rg<|fan 4 4 un100 O sz30 (by decide) O O O O (by omega)<|lo 5 sc30 hS O O O O O<|asg O O O<|st 6 sz27 hS O O O O O O Nat.zero_lt_one O fun w hS =>wt<|wc_ret<|fin2 (v := .slice a31 n31 c31) (u := .nilIface) O O ⟨_, O, lv_c sc27 (hS.get 6 O) O⟩ ?_
     have eM : rcvM m bs fr x = { m with ac := m.ac + 1, ls := dcdS m.key bs + 1, kp := some (dcdT m.key bs, x), rl := (smpV (ofT x) (dcdM m.key bs)), rc := (m.rc + 1), re := (estN m.rc m.re (smpV (ofT x) (dcdM m.key bs))), ad := mvA m.fx m.ad fr, mv := mvN m.fx m.ad fr m.mv } := by simp [rcvM, hcz, hE2, smpM, hM]
     have eP : rcvP m bs = dcdP m.key bs := if_pos hE2
     exact ⟨_, _, rfl, ⟨_, _, _, [(s, .cells (#[Ptr pp 0, I (((m.dir : Nat) : Int)), Ptr t 0, Ptr pc 0, Ptr pf 0, Ptr pe 0, U16 ((smpV (ofT x) (dcdM m.key bs))), I (((m.rc + 1 : Nat) : Int)), U32 (estN m.rc m.re (smpV (ofT x) (dcdM m.key bs))), U64 (m.fs), .bool (m.cz)]) E1), (pf, .cells (#[I (((m.ac + 1 : Nat) : Int)), I ((m.rf : Int)), U64 ((dcdS m.key bs) + 1)]) E2), (pc, .cells (#[U64 (m.nx), U64 (m.gv), .bool (false)]) E3), (t, .cells (tableC c m.key) E4), (c, .cells (cipherC m.key) E5), (pp, .cells (#[Str (mvA m.fx m.ad fr), .bool (m.fx), I (((mvN m.fx m.ad fr m.mv : Nat) : Int)), .map (some pm)]) E6), (pm, mOb encS vI m100)] ++ Y80, X31, by rw [hE2]; rfl, by rw [eM]; exact ⟨pp, pm, pc, pf, pe, t, c, _, _, _, _, _, _, _, _, hd1, hE1, rfl⟩, by rw [eP]; exact ⟨hl31, hm31, hc31, hR31⟩, rfl⟩, St.pk (U := [(b53, .cells (#[.func (.func 51) #[] #[Ptr b9 0], .func (.func 78) #[] #[Ptr p43 0, Ptr q43 0], .func (.func 78) #[] #[Ptr p52 0, Ptr q52 0]]) 95), (q52, .cells (#[I (9)]) 33), (p52, .cells (#[.bool ((!(frsh m.ls (dcdS m.key bs))))]) 4), (q43, .cells (#[I (8)]) 33), (p43, .cells (#[.bool (((((dcdD m.key bs : Nat) : Int) : Int) == ((m.dir : Nat) : Int)))]) 4), (b10, .cells (#[I (((dcdD m.key bs : Nat) : Int)), U64 (dcdS m.key bs), U16 (dcdT m.key bs), U16 (dcdM m.key bs), .slice a31 n31 c31]) 100), (b9, .cells (#[.nilIface]) 27)]) (B := [(s, .cells (#[Ptr pp 0, I (((m.dir : Nat) : Int)), Ptr t 0, Ptr pc 0, Ptr pf 0, Ptr pe 0, U16 ((smpV (ofT x) (dcdM m.key bs))), I (((m.rc + 1 : Nat) : Int)), U32 (estN m.rc m.re (smpV (ofT x) (dcdM m.key bs))), U64 (m.fs), .bool (m.cz)]) E1), (pf, .cells (#[I (((m.ac + 1 : Nat) : Int)), I ((m.rf : Int)), U64 ((dcdS m.key bs) + 1)]) E2), (pc, .cells (#[U64 (m.nx), U64 (m.gv), .bool (false)]) E3), (t, .cells (tableC c m.key) E4), (c, .cells (cipherC m.key) E5), (pp, .cells (#[Str (mvA m.fx m.ad fr), .bool (m.fx), I (((mvN m.fx m.ad fr m.mv : Nat) : Int)), .map (some pm)]) E6), (pm, mOb encS vI m100)]) (Y := X31) (Z := Y80) (R := []) (St.swapT (A := [(b53, .cells (#[.func (.func 51) #[] #[Ptr b9 0], .func (.func 78) #[] #[Ptr p43 0, Ptr q43 0], .func (.func 78) #[] #[Ptr p52 0, Ptr q52 0]]) 95), (q52, .cells (#[I (9)]) 33), (p52, .cells (#[.bool ((!(frsh m.ls (dcdS m.key bs))))]) 4), (q43, .cells (#[I (8)]) 33), (p43, .cells (#[.bool (((((dcdD m.key bs : Nat) : Int) : Int) == ((m.dir : Nat) : Int)))]) 4), (b10, .cells (#[I (((dcdD m.key bs : Nat) : Int)), U64 (dcdS m.key bs), U16 (dcdT m.key bs), U16 (dcdM m.key bs), .slice a31 n31 c31]) 100), (b9, .cells (#[.nilIface]) 27), (s, .cells (#[Ptr pp 0, I (((m.dir : Nat) : Int)), Ptr t 0, Ptr pc 0, Ptr pf 0, Ptr pe 0, U16 ((smpV (ofT x) (dcdM m.key bs))), I (((m.rc + 1 : Nat) : Int)), U32 (estN m.rc m.re (smpV (ofT x) (dcdM m.key bs))), U64 (m.fs), .bool (m.cz)]) E1), (pf, .cells (#[I (((m.ac + 1 : Nat) : Int)), I ((m.rf : Int)), U64 ((dcdS m.key bs) + 1)]) E2), (pc, .cells (#[U64 (m.nx), U64 (m.gv), .bool (false)]) E3), (t, .cells (tableC c m.key) E4), (c, .cells (cipherC m.key) E5), (pp, .cells (#[Str (mvA m.fx m.ad fr), .bool (m.fx), I (((mvN m.fx m.ad fr m.mv : Nat) : Int)), .map (some pm)]) E6), (pm, mOb encS vI m100)]) (X := Y80) (Z := X31) (R := []) hS)⟩
    ·try simp only [SB] at hc4
     have hM : dcdM m.key bs = 65535 := by simpa using hc4
     refine wc_skip<|wt<|rg<|mv O O O<|nilp O O O<|fan 0 0 un90 O sz76 (by decide) O O O O (by omega)<|lo 7 sc76 hS O O O O O<|mv O O O<|cm cf58 O O O O O (sp_peer_Peer_Move pp _ pm m.ad m.fx m.mv _ fr _ (hS.get 12 O) (hS.get 13 O) (nd_of hS [12, 13] O (by decide)) (by omega)) ?_
     rintro _ _ w ⟨b100, m100, rfl, rfl⟩ hS1
     have hS : St w0 G ([(b53, .cells (#[.func (.func 51) #[] #[Ptr b9 0], .func (.func 78) #[] #[Ptr p43 0, Ptr q43 0], .func (.func 78) #[] #[Ptr p52 0, Ptr q52 0]]) 95), (q52, .cells (#[I (9)]) 33), (p52, .cells (#[.bool ((!(frsh m.ls (dcdS m.key bs))))]) 4), (q43, .cells (#[I (8)]) 33), (p43, .cells (#[.bool (((((dcdD m.key bs : Nat) : Int) : Int) == ((m.dir : Nat) : Int)))]) 4), (b10, .cells (#[I (((dcdD m.key bs : Nat) : Int)), U64 (dcdS m.key bs), U16 (dcdT m.key bs), U16 (dcdM m.key bs), .slice a31 n31 c31]) 100), (b9, .cells (#[(errV 33 (dcdE m.key bs))]) 27), (s, .cells (#[Ptr pp 0, I (((m.dir : Nat) : Int)), Ptr t 0, Ptr pc 0, Ptr pf 0, Ptr pe 0, U16 (m.rl), I (((m.rc : Nat) : Int)), U32 (m.re), U64 (m.fs), .bool (m.cz)]) E1), (pf, .cells (#[I (((m.ac + 1 : Nat) : Int)), I ((m.rf : Int)), U64 ((dcdS m.key bs) + 1)]) E2), (pc, .cells (#[U64 (m.nx), U64 (m.gv), .bool (false)]) E3), (t, .cells (tableC c m.key) E4), (c, .cells (cipherC m.key) E5), (pp, .cells (#[Str (mvA m.fx m.ad fr), .bool (m.fx), I (((mvN m.fx m.ad fr m.mv : Nat) : Int)), .map (some pm)]) E6), (pm, mOb encS vI m100)] ++ (Y80 ++ (X31 ++ []))) w := St.calls (L1 := [(pp, .cells (#[Str m.ad, .bool (m.fx), I (((m.mv : Nat) : Int)), .map (some pm)]) E6), (pm, mOb encS vI mm)]) (N := [(pp, .cells (#[Str (mvA m.fx m.ad fr), .bool (m.fx), I (((mvN m.fx m.ad fr m.mv : Nat) : Int)), .map (some pm)]) E6), (pm, mOb encS vI m100)]) (L2 := []) hS [12, 13] rfl rfl hS1
     refine wt<|rg<|fan 4 4 un100 O sz30 (by decide) O O O O (by omega)<|lo 5 sc30 hS O O O O O<|asg O O O<|st 6 sz27 hS O O O O O O Nat.zero_lt_one O fun w hS =>wt<|wc_ret<|fin2 (v := .slice a31 n31 c31) (u := .nilIface) O O ⟨_, O, lv_c sc27 (hS.get 6 O) O⟩ ?_
     have eM : rcvM m bs fr x = { m with ac := m.ac + 1, ls := dcdS m.key bs + 1, kp := some (dcdT m.key bs, x), rl := m.rl, rc := m.rc, re := m.re, ad := mvA m.fx m.ad fr, mv := mvN m.fx m.ad fr m.mv } := by simp [rcvM, hcz, hE2, smpM, hM]
     have eP : rcvP m bs = dcdP m.key bs := if_pos hE2
     exact ⟨_, _, rfl, ⟨_, _, _, [(s, .cells (#[Ptr pp 0, I (((m.dir : Nat) : Int)), Ptr t 0, Ptr pc 0, Ptr pf 0, Ptr pe 0, U16 (m.rl), I (((m.rc : Nat) : Int)), U32 (m.re), U64 (m.fs), .bool (m.cz)]) E1), (pf, .cells (#[I (((m.ac + 1 : Nat) : Int)), I ((m.rf : Int)), U64 ((dcdS m.key bs) + 1)]) E2), (pc, .cells (#[U64 (m.nx), U64 (m.gv), .bool (false)]) E3), (t, .cells (tableC c m.key) E4), (c, .cells (cipherC m.key) E5), (pp, .cells (#[Str (mvA m.fx m.ad fr), .bool (m.fx), I (((mvN m.fx m.ad fr m.mv : Nat) : Int)), .map (some pm)]) E6), (pm, mOb encS vI m100)] ++ Y80, X31, by rw [hE2]; rfl, by rw [eM]; exact ⟨pp, pm, pc, pf, pe, t, c, _, _, _, _, _, _, _, _, hd1, hE1, rfl⟩, by rw [eP]; exact ⟨hl31, hm31, hc31, hR31⟩, rfl⟩, St.pk (U := [(b53, .cells (#[.func (.func 51) #[] #[Ptr b9 0], .func (.func 78) #[] #[Ptr p43 0, Ptr q43 0], .func (.func 78) #[] #[Ptr p52 0, Ptr q52 0]]) 95), (q52, .cells (#[I (9)]) 33), (p52, .cells (#[.bool ((!(frsh m.ls (dcdS m.key bs))))]) 4), (q43, .cells (#[I (8)]) 33), (p43, .cells (#[.bool (((((dcdD m.key bs : Nat) : Int) : Int) == ((m.dir : Nat) : Int)))]) 4), (b10, .cells (#[I (((dcdD m.key bs : Nat) : Int)), U64 (dcdS m.key bs), U16 (dcdT m.key bs), U16 (dcdM m.key bs), .slice a31 n31 c31]) 100), (b9, .cells (#[.nilIface]) 27)]) (B := [(s, .cells (#[Ptr pp 0, I (((m.dir : Nat) : Int)), Ptr t 0, Ptr pc 0, Ptr pf 0, Ptr pe 0, U16 (m.rl), I (((m.rc : Nat) : Int)), U32 (m.re), U64 (m.fs), .bool (m.cz)]) E1), (pf, .cells (#[I (((m.ac + 1 : Nat) : Int)), I ((m.rf : Int)), U64 ((dcdS m.key bs) + 1)]) E2), (pc, .cells (#[U64 (m.nx), U64 (m.gv), .bool (false)]) E3), (t, .cells (tableC c m.key) E4), (c, .cells (cipherC m.key) E5), (pp, .cells (#[Str (mvA m.fx m.ad fr), .bool (m.fx), I (((mvN m.fx m.ad fr m.mv : Nat) : Int)), .map (some pm)]) E6), (pm, mOb encS vI m100)]) (Y := X31) (Z := Y80) (R := []) (St.swapT (A := [(b53, .cells (#[.func (.func 51) #[] #[Ptr b9 0], .func (.func 78) #[] #[Ptr p43 0, Ptr q43 0], .func (.func 78) #[] #[Ptr p52 0, Ptr q52 0]]) 95), (q52, .cells (#[I (9)]) 33), (p52, .cells (#[.bool ((!(frsh m.ls (dcdS m.key bs))))]) 4), (q43, .cells (#[I (8)]) 33), (p43, .cells (#[.bool (((((dcdD m.key bs : Nat) : Int) : Int) == ((m.dir : Nat) : Int)))]) 4), (b10, .cells (#[I (((dcdD m.key bs : Nat) : Int)), U64 (dcdS m.key bs), U16 (dcdT m.key bs), U16 (dcdM m.key bs), .slice a31 n31 c31]) 100), (b9, .cells (#[.nilIface]) 27), (s, .cells (#[Ptr pp 0, I (((m.dir : Nat) : Int)), Ptr t 0, Ptr pc 0, Ptr pf 0, Ptr pe 0, U16 (m.rl), I (((m.rc : Nat) : Int)), U32 (m.re), U64 (m.fs), .bool (m.cz)]) E1), (pf, .cells (#[I (((m.ac + 1 : Nat) : Int)), I ((m.rf : Int)), U64 ((dcdS m.key bs) + 1)]) E2), (pc, .cells (#[U64 (m.nx), U64 (m.gv), .bool (false)]) E3), (t, .cells (tableC c m.key) E4), (c, .cells (cipherC m.key) E5), (pp, .cells (#[Str (mvA m.fx m.ad fr), .bool (m.fx), I (((mvN m.fx m.ad fr m.mv : Nat) : Int)), .map (some pm)]) E6), (pm, mOb encS vI m100)]) (X := Y80) (Z := X31) (R := []) hS)⟩
theorem sp_RcvG (s : Nat) (m : SS) (X : List (Nat × Obj)) (a : Option Addr) (n cap : Nat) (bs : List UInt8) (fr : List UInt8) (x : UInt64) (w0 : World) (hO : SesO s m X) (hX : ∀ p ∈ X, w0.heap[p.1]? = some p.2) (hnd : (X.map Prod.fst).Nodup) (hn : bs.length = n) (hN : n ≤ 1000000) (hcap : n ≤ cap) (hc : CelX (X.map Prod.fst) w0 a (c8 bs)) (hG : GlX 1 (X.map Prod.fst) w0) {k : Nat} (hB : Bd m k) (hk : k < 1000000000) : Calls Tryz.prog 14 #[Ptr s 0, .slice a n cap, Str fr, U64 x] w0 (RetM w0 (X.map Prod.fst) (fun v L' => ∃ a' n' c' X' Y m' e' b', v = .tuple #[.slice a' n' c', errV 33 e'] ∧ SesO s m' X' ∧ m' = rcvM m bs fr x ∧ e' = rcvE m bs ∧ b' = rcvP m bs ∧ b'.length = n' ∧ n' ≤ 1000000 ∧ n' ≤ c' ∧ Rd a' b' Y ∧ L' = X' ++ Y)) :=
  (sp_session_Session_Receive s m X a n cap bs fr x w0 hO hX hnd hn hN hcap hc hG (hB.lt hk)).mono fun e w' ⟨v, L, he, ⟨a', n', c', X', Y, hv, hO2, hg, hL⟩, hS⟩ => ⟨v, L, he, ⟨a', n', c', X', Y, _, _, _, hv, hO2, rfl, rfl, rfl, hg.1, hg.2.1, hg.2.2.1, hg.2.2.2, hL⟩, hS⟩
theorem sp_told (c : Nat) (k : Int) (w0 : World) : Calls Tryz.prog 16 #[errV 33 c, I k] w0 (Ret w0 (.bool (decide ((c : Int) = k)))) := by
 refine enter (args := [errV 33 c, I k]) Tryz.func16 O O<|startw fun w hS =>rg<|asg O O O<|wt<|rg<|mv O O O<|eqi O O O O<|mv O O O ?_
 refine spl 7 O (fun hb1 =>?_) (fun hb1 =>?_)
 ·try simp only [SB] at hb1
  refine mv O O O<|eqE (C := 33) (c := c) un27 O O O<|pk_t O O O O<|mv O O O ?_
  refine spl 11 O (fun hb2 =>?_) (fun hb2 =>?_)
  ·try simp only [SB] at hb2
   refine no O O<|no O O<|no O O<|no O O<|no O O<|no O O<|no O O<|no O O<|pk_t O O O O<|asg O O O<|wt<|wc_ret ?_
   refine fin1 (v := .bool true) O O ?_
   refine ⟨?_, hS.drop⟩
   first | (exfalso; omega) | rw [decide_eq_true (by omega)] | rw [decide_eq_false (by omega)] | exact congrArg (fun b => Ending.returned (Value.bool b)) (decide_eq_decide.2 (by omega))
  ·try simp only [SB] at hb2
   refine mv O O O<|nei O O O O<|mv O O O ?_
   refine spl 14 O (fun hb3 =>?_) (fun hb3 =>?_)
   ·try simp only [SB] at hb3
    refine mv O O O<|mv O O O<|mki cc33 O O O<|eqEE (c := c) un27 ec33 O O O O<|pk_t O O O O<|pk_f O O O O<|asg O O O<|wt<|wc_ret<|fin1 (v := .bool (decide (((c : Nat) : Int) = k ∧ c ≠ 0))) O O ?_
    refine ⟨?_, hS.drop⟩
    first | (exfalso; omega) | rw [decide_eq_true (by omega)] | rw [decide_eq_false (by omega)] | exact congrArg (fun b => Ending.returned (Value.bool b)) (decide_eq_decide.2 (by omega))
   ·try simp only [SB] at hb3
    refine no O O<|no O O<|no O O<|no O O<|pk_f O O O O<|pk_f O O O O<|asg O O O<|wt<|wc_ret<|fin1 (v := .bool false) O O ?_
    refine ⟨?_, hS.drop⟩
    first | (exfalso; omega) | rw [decide_eq_true (by omega)] | rw [decide_eq_false (by omega)] | exact congrArg (fun b => Ending.returned (Value.bool b)) (decide_eq_decide.2 (by omega))
 ·try simp only [SB] at hb1
  refine no O O<|no O O<|pk_f O O O O<|mv O O O<|mv O O O<|nei O O O O<|mv O O O ?_
  refine spl 14 O (fun hb4 =>?_) (fun hb4 =>?_)
  ·try simp only [SB] at hb4
   refine mv O O O<|mv O O O<|mki cc33 O O O<|eqEE (c := c) un27 ec33 O O O O<|pk_t O O O O<|pk_f O O O O<|asg O O O<|wt<|wc_ret<|fin1 (v := .bool (decide (((c : Nat) : Int) = k ∧ c ≠ 0))) O O ?_
   refine ⟨?_, hS.drop⟩
   first | (exfalso; omega) | rw [decide_eq_true (by omega)] | rw [decide_eq_false (by omega)] | exact congrArg (fun b => Ending.returned (Value.bool b)) (decide_eq_decide.2 (by omega))
  ·try simp only [SB] at hb4
   refine no O O<|no O O<|no O O<|no O O<|pk_f O O O O<|pk_f O O O O<|asg O O O<|wt<|wc_ret<|fin1 (v := .bool false) O O ?_
   refine ⟨?_, hS.drop⟩
   first | (exfalso; omega) | rw [decide_eq_true (by omega)] | rw [decide_eq_false (by omega)] | exact congrArg (fun b => Ending.returned (Value.bool b)) (decide_eq_decide.2 (by omega))
theorem sp_NewBad (key : V8 16) (d : Int) (ad : List UInt8) (nx : UInt64) (w0 : World) (hd : d ≠ 0) (hd1 : d ≠ 1) : Calls Tryz.prog 9 #[.agg (BV key), I d, Str ad, U64 nx] w0 (Ret w0 (.tuple #[.pointer none, errV 33 8])) := by
 refine enter (args := [.agg (BV key), I d, Str ad, U64 nx]) Tryz.func9 O O<|startw fun w hS =>rg<|bxa hS O O O fun b4 w hb4 hS =>asg O O O<|asg O O O<|wt<|wc_seq<|rg<|mv O O O<|nei O O O O<|mv O O O ?_
 refine spl 13 O (fun hb1 =>?_) (fun hb1 =>?_)
 ·try simp only [SB] at hb1
  refine mv O O O<|nei O O O O<|pk_t O O O O<|wt ?_
  refine wc_if O (fun hc1 =>?_) (fun hc1 =>?_)
  ·try simp only [SB] at hc1
   refine rg<|mki cc33 O O O<|asg O O O<|asg O O O<|wt<|wc_ret<|q_then_ret<|fin2 (v := (.pointer none)) (u := (.iface 33 (I 8))) O O O ?_
   exact ⟨rfl, hS.drop⟩
  ·try simp only [SB] at hc1
   exfalso; omega
 ·try simp only [SB] at hb1
  exfalso; omega
theorem sp_awake22 (w0 : World) (hG : Gl 1 w0) : Calls Tryz.prog 8 #[] w0 (Ret w0 (.bool true)) := by
 refine enter (args := []) Tryz.func8 O O<|startw fun w hS =>rg<|asg O O O<|wt<|rg<|bd (cs := BV (Vector.replicate 16 0)) O O O (by kernel_rfl)<|cs cf9 hS O O O O O (sp_session_New ((Vector.replicate 16 0)) 0 (([115, 58, 49])) 5 _ _ (by omega) (by omega)) ?_
 rintro _ X20 w ⟨s20, rfl, hO20⟩ hS
 have hS := St.tailin (X := X20) hS [] [] rfl
 obtain ⟨m20, hm20⟩ : ∃ m, m = sesN (Vector.replicate 16 0) 0 ([115, 58, 49]) 5 := ⟨_, rfl⟩
 rw [← hm20] at hO20
 have hbd20 : Bd m20 0 := by rw [hm20]; exact Bd_new _ _ _ _
 refine mv O O O<|ext O O O O<|ext O O O O<|asg O O O<|asg O O O<|wt<|rg<|bd (cs := BV (Vector.replicate 16 0)) O O O (by kernel_rfl)<|cs cf9 hS O O O O O (sp_session_New ((Vector.replicate 16 0)) 1 (([])) 0 _ _ (by omega) (by omega)) ?_
 rintro _ X25 w ⟨s25, rfl, hO25⟩ hS
 have hS := St.tailin (X := X25) hS [] (X20 ++ []) rfl
 obtain ⟨m25, hm25⟩ : ∃ m, m = sesN (Vector.replicate 16 0) 1 ([]) 0 := ⟨_, rfl⟩
 rw [← hm25] at hO25
 have hbd25 : Bd m25 0 := by rw [hm25]; exact Bd_new _ _ _ _
 refine mv O O O<|ext O O O O<|ext O O O O<|asg O O O<|asg O O O<|wt<|rg<|bd (cs := BV (Vector.replicate 16 0)) O O O (by kernel_rfl)<|cv cf9 hS O O O O O (sp_NewBad ((Vector.replicate 16 0)) 2 (([])) 0 _ (by first | assumption | decide) (by first | assumption | decide)) fun w hS =>mv O O O<|ext O O O O<|ext O O O O ?_
 refine asg O O O<|asg O O O<|wt<|wc_seq<|rg<|mv O O O<|eqpn un25 O O O O<|mv O O O<|mv O O O<|eqpn un25 O O O O<|pk_f O O O O<|wt ?_
 refine wc_if_f O<|wc_skip<|wt<|rg<|mv O O O<|cm cf10 O O O O O (sp_SndG s25 m25 X25 none 0 0 [] 0 _ hO25 (St.memT hS) (St.nodupT hS) O (by omega) (by omega) (fun _ w _ =>Cel.nil w none) (fun _ _ k =>by have hS := St.callX hS k; exact hG.st hS)) ?_
 rintro _ _ w ⟨a41, n41, c41, X41, Y41, m41, e41, ad41, q41, rfl, hO41, hm41, he41, ha41, hq41, hl41, hN41, hcp41, hR41, rfl⟩ hS1
 have hbd41 : Bd m41 0 := by rw [hm41]; exact Bd_snd hbd25 _
 have hS : St w0 [] ([] ++ (X41 ++ (Y41 ++ (X20 ++ [])))) w := St.callXY hS hS1
 refine mv O O O<|ext O O O O<|ext O O O O<|ext O O O O<|asg O O O<|asg O O O<|asg O O O<|wt<|rg<|mv O O O<|bsl (cs := #[U8 (104), U8 (105)]) sl30 hS O O O O (by kernel_rfl) fun b47 w hb47 hS =>cvb 0 un30 un5 hS O O O O fun w hS =>?_
 have hS : St w0 [] ([(b47, .cells (#[U8 (104), U8 (105)]) 5 (2, 2 + 1))] ++ (X41 ++ (Y41 ++ (X20 ++ [])))) w := hS
 refine cm cf10 O O O O O (sp_SndG s20 m20 X20 (some ⟨b47, 0, none⟩) 2 2 ([104, 105]) 70000 _ hO20 (St.memT (St.br2 hS)) (St.nodupT (St.br2 hS)) (by first | rfl | omega | (simp; omega) | (simp; done)) (by omega) (by omega) (fun _ _ k =>by have hS := St.callX (St.br2 hS) k; exact Cel.lb (l := [104, 105]) (hS.get 0 O)) (fun _ _ k =>by have hS := St.callX (St.br2 hS) k; exact hG.st hS)) ?_
 rintro _ _ w ⟨a49, n49, c49, X49, Y49, m49, e49, ad49, q49, rfl, hO49, hm49, he49, ha49, hq49, hl49, hN49, hcp49, hR49, rfl⟩ hS1
 have hbd49 : Bd m49 0 := by rw [hm49]; exact Bd_snd hbd20 _
 have hS : St w0 [] ([(b47, .cells (#[U8 (104), U8 (105)]) 5 (2, 2 + 1))] ++ (X49 ++ (Y49 ++ (X41 ++ (Y41 ++ []))))) w := St.callXY (St.br2 hS) hS1
 refine mv O O O<|ext O O O O<|ext O O O O<|ext O O O O<|asg O O O<|asg O O O<|asg O O O<|wt<|rg<|mv O O O<|mv O O O ?_
 have hS : St w0 [] ([(b47, .cells (#[U8 (104), U8 (105)]) 5 (2, 2 + 1))] ++ (X49 ++ (Y49 ++ (X41 ++ (Y41 ++ []))))) w := hS
 refine cm cf14 O O O O O (sp_RcvG s25 m41 X41 a49 n49 c49 q49 ([99, 58, 50]) 70010 _ hO41 (St.memT (St.br2 hS)) (St.nodupT (St.br2 hS)) hl49 (by omega) (by omega) (fun _ _ k =>by have hS := St.callX (St.br2 hS) k; exact hR49 _ _ _ _ hS (fun p hp =>by simp [hp])) (fun _ _ k =>by have hS := St.callX (St.br2 hS) k; exact hG.st hS) hbd41 (by omega)) ?_
 rintro _ _ w ⟨a56, n56, c56, X56, Y56, m56, e56, q56, rfl, hO56, hm56, he56, hq56, hl56, hN56, hcp56, hR56, rfl⟩ hS1
 have hbd56 : Bd m56 (0 + 1) := by rw [hm56]; exact Bd_rcv hbd41 _ _ _
 have hS : St w0 [] ([(b47, .cells (#[U8 (104), U8 (105)]) 5 (2, 2 + 1))] ++ (X56 ++ (Y56 ++ (X49 ++ (Y49 ++ (Y41 ++ [])))))) w := St.callXY (St.br2 hS) hS1
 refine mv O O O<|ext O O O O<|ext O O O O<|asg O O O<|asg O O O<|wt<|rg<|mv O O O<|mv O O O ?_
 have hS : St w0 [] ([(b47, .cells (#[U8 (104), U8 (105)]) 5 (2, 2 + 1))] ++ (X56 ++ (Y56 ++ (X49 ++ (Y49 ++ (Y41 ++ [])))))) w := hS
 refine cm cf14 O O O O O (sp_RcvG s25 m56 X56 a49 n49 c49 q49 ([99, 58, 51]) 70011 _ hO56 (St.memT hS) (St.nodupT hS) hl49 (by omega) (by omega) (fun _ _ k =>by have hS := St.callX hS k; exact hR49 _ _ _ _ hS (fun p hp =>by simp [hp])) (fun _ _ k =>by have hS := St.callX hS k; exact hG.st hS) hbd56 (by omega)) ?_
 rintro _ _ w ⟨a62, n62, c62, X62, Y62, m62, e62, q62, rfl, hO62, hm62, he62, hq62, hl62, hN62, hcp62, hR62, rfl⟩ hS1
 have hbd62 : Bd m62 ((0 + 1) + 1) := by rw [hm62]; exact Bd_rcv hbd56 _ _ _
 have hS : St w0 [] ([(b47, .cells (#[U8 (104), U8 (105)]) 5 (2, 2 + 1))] ++ (X62 ++ (Y62 ++ (Y56 ++ (X49 ++ (Y49 ++ (Y41 ++ []))))))) w := St.callXY hS hS1
 obtain ⟨hw1, hw2, hw3, hw4, hw5, hw6, hw7, hw8, hw9, hw10, hw11⟩ := awk hm20 hm25 he41 hm41 he49 hm49 ha49 hq49 he56 hq56 hm56 he62 hm62
 refine mv O O O<|ext O O O O<|ext O O O O<|asg O O O<|asg O O O<|wt<|rg<|mv O O O ?_
 have hS : St w0 [] ([(b47, .cells (#[U8 (104), U8 (105)]) 5 (2, 2 + 1))] ++ (X62 ++ (Y62 ++ (Y56 ++ (X49 ++ (Y49 ++ (Y41 ++ []))))))) w := hS
 refine cv (v := .agg (#[U64 (m62.fs + m62.gv), U64 (lstV m62.ls), .bool (decide (m62.ls ≠ 0)), I (((m62.ac : Nat) : Int)), I (((m62.rf : Nat) : Int)), Str m62.ad, I (((m62.mv : Nat) : Int)), I (((m62.rc : Nat) : Int)), U16 (m62.rl), .bool (m62.cz)])) cf12 hS O O O O O (sp_session_Session_Status s25 m62 X62 _ hO62 (St.memT hS)) fun w hS =>ala zr38 hS O O fun b17 w hb17 hS =>sa 0 ag38 hS O O O (by kernel_rfl) O O O fun w hS =>wt<|rg<|mv O O O<|eqnn (s := 0) un27 O O O O<|mv O O O<|mv O O O<|eqnn (s := 0) un27 O O O O<|pk_t O O O O<|mv O O O ?_
 refine mv O O O<|mki cc33 O O O<|eqEE (c := 8) un27 ec33 O O O O<|pk_t O O O O<|mv O O O ?_
 refine spl 78 O (fun hb1 =>?_) (fun hb1 =>?_)
 ·try simp only [SB] at hb1
  refine mv O O O<|mki cc33 O O O<|eqEE (c := e41) un27 ec33 O O O O<|pk_t O O O O<|mv O O O ?_
  refine spl 83 O (fun hb2 =>?_) (fun hb2 =>?_)
  ·try simp only [SB] at hb2
   refine mv O O O<|eqs O O O O<|pk_t O O O O<|mv O O O ?_
   refine spl 87 O (fun hb3 =>?_) (fun hb3 =>?_)
   ·try simp only [SB] at hb3
    refine mv O O O<|eqE (C := 33) (c := e49) un27 O O O<|pk_t O O O O<|mv O O O ?_
    refine spl 91 O (fun hb4 =>?_) (fun hb4 =>?_)
    ·try simp only [SB] at hb4
     refine mv O O O<|cvbs un30 un5 un9 O O O (hR56 _ _ _ _ hS (fun p hp =>by simp [hp])) hl56<|eqs O O O O<|pk_t O O O O<|mv O O O ?_
     refine spl 96 O (fun hb5 =>?_) (fun hb5 =>?_)
     ·try simp only [SB] at hb5
      refine mv O O O<|eqE (C := 33) (c := e56) un27 O O O<|pk_t O O O O<|mv O O O ?_
      refine spl 100 O (fun hb6 =>?_) (fun hb6 =>?_)
      ·try simp only [SB] at hb6
       refine mv O O O<|mki cc33 O O O<|eqEE (c := e62) un27 ec33 O O O O<|pk_t O O O O<|mv O O O ?_
       refine spl 105 O (fun hb7 =>?_) (fun hb7 =>?_)
       ·try simp only [SB] at hb7
        refine fan 5 5 un38 O sz9 (by decide) O O O O (by omega)<|lo 0 sc9 hS O O O O O<|eqs O O O O<|pk_t O O O O<|mv O O O ?_
        refine spl 110 O (fun hb8 =>?_) (fun hb8 =>?_)
        ·try simp only [SB] at hb8
         refine fan 1 1 un38 O sz24 (by decide) O O O O (by omega)<|lo 0 sc24 hS O O O O O<|eqi O O O O<|pk_t O O O O<|mv O O O ?_
         refine spl 115 O (fun hb9 =>?_) (fun hb9 =>?_)
         ·try simp only [SB] at hb9
          refine fan 2 2 un38 O sz4 (by decide) O O O O (by omega)<|lo 0 sc4 hS O O O O O<|pk_t O O O O<|mv O O O ?_
          refine spl 119 O (fun hb10 =>?_) (fun hb10 =>?_)
          ·try simp only [SB] at hb10
           refine fan 4 4 un38 O sz3 (by decide) O O O O (by omega)<|lo 0 sc3 hS O O O O O<|eqi O O O O<|pk_t O O O O<|mv O O O ?_
           refine spl 124 O (fun hb11 =>?_) (fun hb11 =>?_)
           ·try simp only [SB] at hb11
            refine mv O O O ?_
            have hS : St w0 [] ([(b17, .cells (#[U64 (m62.fs + m62.gv), U64 (lstV m62.ls), .bool (decide (m62.ls ≠ 0)), I (((m62.ac : Nat) : Int)), I (((m62.rf : Nat) : Int)), Str m62.ad, I (((m62.mv : Nat) : Int)), I (((m62.rc : Nat) : Int)), U16 (m62.rl), .bool (m62.cz)]) 38), (b47, .cells (#[U8 (104), U8 (105)]) 5 (2, 2 + 1))] ++ (X62 ++ (Y62 ++ (Y56 ++ (X49 ++ (Y49 ++ (Y41 ++ []))))))) w := hS
            refine cv (v := .agg (#[U64 (m49.fs + m49.gv), U64 (lstV m49.ls), .bool (decide (m49.ls ≠ 0)), I (((m49.ac : Nat) : Int)), I (((m49.rf : Nat) : Int)), Str m49.ad, I (((m49.mv : Nat) : Int)), I (((m49.rc : Nat) : Int)), U16 (m49.rl), .bool (m49.cz)])) cf12 hS O O O O O (sp_session_Session_Status s20 m49 X49 _ hO49 (St.memT (St.br3 hS))) fun w hS =>fld un38 O sc24 O O O O<|eqi O O O O<|pk_t O O O O<|asg O O O<|wt<|wc_ret<|fin1 (v := .bool ((((m49.fs + m49.gv).toNat : Int) : Int) == (6 : Int))) O O ?_
            refine ⟨?_, hS.drop⟩
            rw [hw11]; rfl
           ·try simp only [SB] at hb11
            exact absurd (by first | omega | (simp only [*]; done) | exact hw8 | (rw [hw2]; done) | (rw [hw8]; rfl)) hb11
          ·try simp only [SB] at hb10
           exact absurd (by first | omega | (simp only [*]; done) | exact hw8 | (rw [hw2]; done) | (rw [hw8]; rfl)) hb10
         ·try simp only [SB] at hb9
          exact absurd (by first | omega | (simp only [*]; done) | exact hw8 | (rw [hw2]; done) | (rw [hw8]; rfl)) hb9
        ·try simp only [SB] at hb8
         exact absurd (by first | omega | (simp only [*]; done) | exact hw8 | (rw [hw2]; done) | (rw [hw8]; rfl)) hb8
       ·try simp only [SB] at hb7
        exact absurd (by first | omega | (simp only [*]; done) | exact hw8 | (rw [hw2]; done) | (rw [hw8]; rfl)) hb7
      ·try simp only [SB] at hb6
       exact absurd (by first | omega | (simp only [*]; done) | exact hw8 | (rw [hw2]; done) | (rw [hw8]; rfl)) hb6
     ·try simp only [SB] at hb5
      exact absurd (by first | omega | (simp only [*]; done) | exact hw8 | (rw [hw2]; done) | (rw [hw8]; rfl)) hb5
    ·try simp only [SB] at hb4
     exact absurd (by first | omega | (simp only [*]; done) | exact hw8 | (rw [hw2]; done) | (rw [hw8]; rfl)) hb4
   ·try simp only [SB] at hb3
    exact absurd (by first | omega | (simp only [*]; done) | exact hw8 | (rw [hw2]; done) | (rw [hw8]; rfl)) hb3
  ·try simp only [SB] at hb2
   exact absurd (by first | omega | (simp only [*]; done) | exact hw8 | (rw [hw2]; done) | (rw [hw8]; rfl)) hb2
 ·try simp only [SB] at hb1
  exact absurd (by first | omega | (simp only [*]; done) | exact hw8 | (rw [hw2]; done) | (rw [hw8]; rfl)) hb1
end Go.Proofs.XS
set_option maxRecDepth 1000000
namespace Go.Proofs.XS
open Go Go.X Go.Proofs
theorem cf67 : Callable Tryz.prog 67 := ⟨_, Tryz.func67, by kernel_rfl, rfl⟩
def un4 := Tryz.underlying4
theorem cf68 : Callable Tryz.prog 68 := ⟨_, Tryz.func68, by kernel_rfl, rfl⟩
end Go.Proofs.XS
set_option maxRecDepth 100000
namespace Go.Proofs.XS
open Go Go.X Go.Proofs
theorem sp_echo_Rtt_Estimate (s E : Nat) (v0 v1 v2 v3 v4 v5 v9 v10 : Value) (rl : UInt16) (rc : Nat) (re : UInt32) (w0 : World) (hs : w0.heap[s]? = some (.cells (#[v0, v1, v2, v3, v4, v5, U16 rl, I (rc : Int), U32 re, v9, v10]) E)) : Calls Tryz.prog 69 #[Ptr s 6] w0 (Ret w0 (U32 re)) := by
 refine enter (args := [Ptr s 6]) Tryz.func69 O O<|startw fun w hS =>rg<|asg O O O<|wt<|wc_seq<|rg<|mv O O O<|eqpn un175 O O O O<|wt<|wc_if_f O<|wc_skip ?_
 refine wt<|rg<|mv O O O<|nilp O O O<|fan 2 8 un88 O sz72 (by decide) O O O O (by omega)<|lod hs List.not_mem_nil sc72 hS O O O O<|asg O O O<|wt<|wc_ret<|fin1 (v := U32 re) O O ?_
 exact ⟨rfl, hS.drop⟩
theorem sp_session_Session_Estimate (s : Nat) (m : SS) (X : List (Nat × Obj)) (w0 : World) (hO : SesO s m X) (hX : ∀ p ∈ X, w0.heap[p.1]? = some p.2) : Calls Tryz.prog 23 #[Ptr s 0] w0 (Ret w0 (U32 m.re)) := by
 refine enter (args := [Ptr s 0]) Tryz.func23 O O ?_
 obtain ⟨pp, pm, pc, pf, pe, t, c, E1, E2, E3, E4, E5, E6, mm, Z, hd1, hE, hXe⟩ := hO
 subst hXe
 have hs : w0.heap[s]? = some (.cells (#[Ptr pp 0, I (((m.dir : Nat) : Int)), Ptr t 0, Ptr pc 0, Ptr pf 0, Ptr pe 0, U16 (m.rl), I (((m.rc : Nat) : Int)), U32 (m.re), U64 (m.fs), .bool (m.cz)]) E1) := hX (s, _) (by simp)
 have hpf : w0.heap[pf]? = some (.cells (#[I (((m.ac : Nat) : Int)), I (((m.rf : Nat) : Int)), U64 (m.ls)]) E2) := hX (pf, _) (by simp)
 have hpc : w0.heap[pc]? = some (.cells (#[U64 (m.nx), U64 (m.gv), .bool (false)]) E3) := hX (pc, _) (by simp)
 have hpp : w0.heap[pp]? = some (.cells (#[Str m.ad, .bool (m.fx), I (((m.mv : Nat) : Int)), .map (some pm)]) E6) := hX (pp, _) (by simp)
 refine startw fun w hS =>rg<|asg O O O<|wt<|wc_seq<|rg<|mv O O O<|eqpn un25 O O O O<|wt<|wc_if_f O<|wc_skip<|wt ?_
 refine rg<|mv O O O<|nilp O O O<|fan 6 6 un90 O sz88 (by decide) O O O O (by omega)<|cv cf69 hS O O O O O (sp_echo_Rtt_Estimate s _ _ _ _ _ _ _ _ _ m.rl m.rc m.re _ (hS.old hs List.not_mem_nil)) fun w hS =>asg O O O<|wt<|wc_ret<|fin1 (v := U32 m.re) O O ?_
 exact ⟨rfl, hS.drop⟩
theorem sp_mooringref20_Estimate (a : Option Addr) (n cap : Nat) (l : List UInt16) (w0 : World) (hn : l.length = n) (hN : n ≤ 1000000) (hc : Cel w0 a (ch l)) : Calls Tryz.prog 68 #[.slice a n cap] w0 (Ret w0 (I ((estS l n : Nat) : Int))) := by
 refine enter (args := [.slice a n cap]) Tryz.func68 O O<|startw fun w hS =>rg<|asg O O O<|wt<|rg<|asg O O O<|wt<|wc_seq<|rg<|asg O O O<|wt ?_
 refine wc_block ?_
 refine wc_loop (σ := Nat) (fun k =>[(0, .slice a n cap), (2, I 0), (3, I (((estS l k : Nat) : Int))), (4, I ((k : Int)))])
  (fun k w => (k ≤ n) ∧ St w0 [] [] w) (fun k => n - k) 0 ⟨rfl, rfl, rfl, rfl, trivial⟩ ⟨by omega, hS⟩ ?_
 rintro k w ⟨hk, hS⟩
 have hle := estS_le l k
 have hlt := (glh l k).toNat_lt
 have hlt0 := (glh l 0).toNat_lt
 refine wc_seq<|rg<|mv O O O<|mv O O O<|lens un51 O O O<|lss O O O O<|wt ?_
 refine wc_if O (fun hc1 =>?_) (fun hc1 =>?_)
 ·try simp only [SB] at hc1
  refine wc_skip<|wt<|wc_seq<|wc_block<|rg<|mv O O O<|eqi O O O O<|wt ?_
  refine wc_if O (fun hc2 =>?_) (fun hc2 =>?_)
  ·try simp only [SB] at hc2
   refine wc_region<|mv O O O<|mv O O O<|slx k un51 sz36 O O O O (by omega) (by omega) ((hc.st hS).someh (j := k) (by first | omega | (simp; done) | (simp; omega)))<|ldxh sc36 O O O (hc.st hS) (by first | omega | (simp; done) | (simp; omega))<|cvi un3 ⟨_, un36⟩ (by have := (glh l k).toNat_lt; omega) (by have := (glh l k).toNat_lt; omega) O O O<|muli (by omega) (by omega) O O O O<|asg O O O<|q_block_norm<|wt<|wc_region<|mv O O O ?_
   refine addi (by omega) (by omega) O O O O<|asg O O O ?_
   refine again_q (k + 1) ⟨O, O, lkI O (by first | (have hk0 : k = 0 := (by omega); subst hk0; simp only [estS, if_true]; omega) | (have hk0 : ¬ k = 0 := (by omega); simp only [estS, if_neg hk0]; omega)), lkI O (by first | omega | rfl), trivial⟩ ⟨by omega, hS⟩ (by omega)
  ·try simp only [SB] at hc2
   refine wc_region<|mv O O O<|mv O O O<|addi (by omega) (by omega) O O O O<|quoi (by omega) (by omega) (by omega) O O O O<|subi (by omega) (by omega) O O O O<|mv O O O<|mv O O O<|slx k un51 sz36 O O O O (by omega) (by omega) ((hc.st hS).someh (j := k) (by first | omega | (simp; done) | (simp; omega)))<|ldxh sc36 O O O (hc.st hS) (by first | omega | (simp; done) | (simp; omega))<|cvi un3 ⟨_, un36⟩ (by have := (glh l k).toNat_lt; omega) (by have := (glh l k).toNat_lt; omega) O O O<|addi (by omega) (by omega) O O O O ?_
   refine asg O O O<|q_block_norm<|wt<|wc_region<|mv O O O<|addi (by omega) (by omega) O O O O<|asg O O O ?_
   refine again_q (k + 1) ⟨O, O, lkI O (by first | (have hk0 : k = 0 := (by omega); subst hk0; simp only [estS, if_true]; omega) | (have hk0 : ¬ k = 0 := (by omega); simp only [estS, if_neg hk0]; omega)), lkI O (by first | omega | rfl), trivial⟩ ⟨by omega, hS⟩ (by omega)
 ·try simp only [SB] at hc1
  refine wc_exit<|q_then_exit<|q_then_exit<|q_block_hit<|wt<|rg<|mv O O O<|asg O O O<|wt<|wc_ret<|fin1 (v := I (((estS l k : Nat) : Int))) O O ?_
  refine ⟨?_, hS.drop⟩
  have hk4 : k = n := by omega
  rw [hk4]
theorem sp_mooringref22_Next (m : RS) (a1 : Option Addr) (n1 c1 : Nat) (a2 : Option Addr) (n2 c2 : Nat) (w0 : World) : Calls Tryz.prog 67 #[.agg (BV (expand m.key) ++ (BV sboxV ++ #[I (((m.dir : Nat) : Int)), U64 (m.fs), U64 (m.gv), .bool (false), .slice a1 n1 c1, I (((m.rf : Nat) : Int)), .bool (m.kp.isSome), I ((((kpS m.kp) : Nat) : Int)), U64 (kpT m.kp), .slice a2 n2 c2, Str m.ad, I (((m.mv : Nat) : Int)), .bool (m.cz)]))] w0 (Ret w0 (U64 (m.fs + m.gv))) := by
 refine enter Tryz.func67 O O<|startw fun w hS =>rg<|bxa hS O O O fun b1 w hb1 hS =>asg O O O<|wt<|rg<|fan 433 433 un53 O sz47 (by decide) O O O O (by omega)<|fan 0 433 un47 O sz24 (by decide) O O O O (by omega)<|lo 0 sc24 hS O O O O (cat_r (a := 176) (o' := 257) (BV_size _) (by omega) (cat_r (a := 256) (o' := 1) (BV_size _) (by omega) O))<|fan 433 433 un53 O sz47 (by decide) O O O O (by omega)<|fan 1 434 un47 O sz24 (by decide) O O O O (by omega) ?_
 refine lo 0 sc24 hS O O O O (cat_r (a := 176) (o' := 258) (BV_size _) (by omega) (cat_r (a := 256) (o' := 2) (BV_size _) (by omega) O))<|add64 O O O O<|asg O O O<|wt<|wc_ret<|fin1 (v := U64 (m.fs + m.gv)) O O ?_
 exact ⟨rfl, hS.drop⟩
theorem sp_StatR (s : Nat) (m : RS) (X : List (Nat × Obj)) (n1 n2 : Nat) (w0 : World) (hI : RInv m) (hl1 : m.acc.length = n1) (hl2 : m.smp.length = n2) (hO : SesO s (relS m) X) (hX : ∀ p ∈ X, w0.heap[p.1]? = some p.2) : Calls Tryz.prog 12 #[Ptr s 0] w0 (Ret w0 (.agg (stR m n1 n2))) := by
  have h := sp_session_Session_Status s (relS m) X w0 hO hX
  rw [st_rel hI hl1 hl2] at h; exact h
theorem sp_Same22 (s : Nat) (m : RS) (X : List (Nat × Obj)) (a1 : Option Addr) (n1 c1 : Nat) (a2 : Option Addr) (n2 c2 : Nat) (w0 : World) (hI : RInv m) (hO : SesO s (relS m) X) (hX : ∀ p ∈ X, w0.heap[p.1]? = some p.2) (hq1 : Cel w0 a1 (cq m.acc)) (hl1 : m.acc.length = n1) (hN1 : n1 ≤ 1000000) (hh2 : Cel w0 a2 (ch m.smp)) (hl2 : m.smp.length = n2) (hN2 : n2 ≤ 1000000) : Calls Tryz.prog 18 #[Ptr s 0, .agg (BV (expand m.key) ++ (BV sboxV ++ #[I (((m.dir : Nat) : Int)), U64 (m.fs), U64 (m.gv), .bool (false), .slice a1 n1 c1, I (((m.rf : Nat) : Int)), .bool (m.kp.isSome), I ((((kpS m.kp) : Nat) : Int)), U64 (kpT m.kp), .slice a2 n2 c2, Str m.ad, I (((m.mv : Nat) : Int)), .bool (m.cz)]))] w0 (Ret w0 (I 1)) := by
 refine enter Tryz.func18 O O<|startw fun w hS =>?_
 have hest := est_r m.smp n2
 have hel := estS_le m.smp n2
 refine rg<|bxa hS O O O fun b3 w hb3 hS =>asg O O O<|wt<|rg<|mv O O O<|cv (v := .agg (#[U64 (m.fs + m.gv), U64 (glq m.acc (n1 - 1)), .bool (decide ((n1 : Int) > 0)), I (((n1 : Nat) : Int)), I (((m.rf : Nat) : Int)), Str m.ad, I (((m.mv : Nat) : Int)), I (((n2 : Nat) : Int)), U16 (glh m.smp (n2 - 1)), .bool (m.cz)])) cf12 hS O O O O O (sp_StatR s m X n1 n2 _ hI hl1 hl2 hO (fun p hp =>hS.old (hX p hp) List.not_mem_nil)) fun w hS =>ala zr38 hS O O fun b5 w hb5 hS =>sa 0 ag38 hS O O O (by kernel_rfl) O O O fun w hS =>wt<|rg<|fan 436 436 un53 O sz48 (by decide) O O O O (by omega) ?_
 refine lo 1 sc48 hS O O O O (cat_r (a := 176) (o' := 260) (BV_size _) (by omega) (cat_r (a := 256) (o' := 4) (BV_size _) (by omega) O))<|lens un48 O O O<|asg O O O<|wt<|wc_seq ?_
 refine sqj (fun l w =>l = [(0, Ptr s 0), (3, Ptr b3 0), (4, I 0), (5, Ptr b5 0), (62, .bool ((((m.rf : Nat) : Int) : Int) != ((m.rf : Nat) : Int)))] ∧ St w0 [] [(b5, .cells (#[U64 (m.fs + m.gv), U64 (glq m.acc (n1 - 1)), .bool (decide ((n1 : Int) > 0)), I (((n1 : Nat) : Int)), I (((m.rf : Nat) : Int)), Str m.ad, I (((m.mv : Nat) : Int)), I (((n2 : Nat) : Int)), U16 (glh m.smp (n2 - 1)), .bool (m.cz)]) 38), (b3, .cells (BV (expand m.key) ++ (BV sboxV ++ #[I (((m.dir : Nat) : Int)), U64 (m.fs), U64 (m.gv), .bool (false), .slice a1 n1 c1, I (((m.rf : Nat) : Int)), .bool (m.kp.isSome), I ((((kpS m.kp) : Nat) : Int)), U64 (kpT m.kp), .slice a2 n2 c2, Str m.ad, I (((m.mv : Nat) : Int)), .bool (m.cz)])) 53)] w) ?_ ?_
 ·refine wc_draw mo 50 (fun w =>St w0 [] [(b5, .cells (#[U64 (m.fs + m.gv), U64 (glq m.acc (n1 - 1)), .bool (decide ((n1 : Int) > 0)), I (((n1 : Nat) : Int)), I (((m.rf : Nat) : Int)), Str m.ad, I (((m.mv : Nat) : Int)), I (((n2 : Nat) : Int)), U16 (glh m.smp (n2 - 1)), .bool (m.cz)]) 38), (b3, .cells (BV (expand m.key) ++ (BV sboxV ++ #[I (((m.dir : Nat) : Int)), U64 (m.fs), U64 (m.gv), .bool (false), .slice a1 n1 c1, I (((m.rf : Nat) : Int)), .bool (m.kp.isSome), I ((((kpS m.kp) : Nat) : Int)), U64 (kpT m.kp), .slice a2 n2 c2, Str m.ad, I (((m.mv : Nat) : Int)), .bool (m.cz)])) 53)] w) ?_
  have hS := hS.drew
  refine jx (hS.sl 2 3) fun jj =>dx 0 O (by kernel_rfl) (fun w hS =>fan 0 0 un38 O sz24 (by decide) O O O O (by omega) rr) jj<|dx 1 O (by kernel_rfl) (fun w hS =>lo 0 sc24 hS O O O O O rr) jj<|dx 2 O (by kernel_rfl) (fun w hS =>la 1 ag53 hS O O O O (cat_size (a := 176) (b := 269) (BV_size _) (cat_size (a := 256) (b := 13) (BV_size _) O)) rr) jj ?_
  refine dl 3 O (by kernel_rfl)<|cv cf67 hS O O O O O (sp_mooringref22_Next m a1 n1 c1 a2 n2 c2 _) fun w hS =>lx (hS.sl 2 3) fun jj =>dx 4 O (by kernel_rfl) (fun w hS =>nei O O O O rr) jj<|dx 5 O (by kernel_rfl) (fun w hS =>mv O O O rr) jj ?_
  refine spd 18 O (fun hb1 =>?_) (fun hb1 =>?_)
  ·try simp only [SB] at hb1
   first | (exfalso; omega) | exact absurd rfl hb1 | (rw [glq_0 hl1 (by omega)] at hb1; exact absurd rfl hb1) | (rw [glh_0 hl2 (by omega)] at hb1; exact absurd rfl hb1) | (simp at hb1)
  ·try simp only [SB] at hb1
   refine dx 6 O (by kernel_rfl) (fun w hS =>fan 2 2 un38 O sz4 (by decide) O O O O (by omega) rr) jj<|dx 7 O (by kernel_rfl) (fun w hS =>lo 0 sc4 hS O O O O O rr) jj<|dx 8 O (by kernel_rfl) (fun w hS =>mv O O O rr) jj<|dx 9 O (by kernel_rfl) (fun w hS =>gtr O O O O rr) jj<|dx 10 O (by kernel_rfl) (fun w hS =>neb un4 O O O O rr) jj<|dx 11 O (by kernel_rfl) (fun w hS =>pk_f O O O O rr) jj<|dx 12 O (by kernel_rfl) (fun w hS =>mv O O O rr) jj ?_
   refine spd 25 O (fun hb2 =>?_) (fun hb2 =>?_)
   ·try simp only [SB] at hb2
    first | (exfalso; omega) | exact absurd rfl hb2 | (rw [glq_0 hl1 (by omega)] at hb2; exact absurd rfl hb2) | (rw [glh_0 hl2 (by omega)] at hb2; exact absurd rfl hb2) | (simp at hb2)
   ·try simp only [SB] at hb2
    refine dx 13 O (by kernel_rfl) (fun w hS =>fan 2 2 un38 O sz4 (by decide) O O O O (by omega) rr) jj<|dx 14 O (by kernel_rfl) (fun w hS =>lo 0 sc4 hS O O O O O rr) jj<|dx 15 O (by kernel_rfl) (fun w hS =>mv O O O rr) jj ?_
    refine spd 28 O (fun hb3 =>?_) (fun hb3 =>?_)
    ·try simp only [SB] at hb3
     refine dx 16 O (by kernel_rfl) (fun w hS =>fan 1 1 un38 O sz24 (by decide) O O O O (by omega) rr) jj<|dx 17 O (by kernel_rfl) (fun w hS =>lo 0 sc24 hS O O O O O rr) jj<|dx 18 O (by kernel_rfl) (fun w hS =>fan 436 436 un53 O sz48 (by decide) O O O O (by omega) rr) jj<|dx 19 O (by kernel_rfl) (fun w hS =>lo 1 sc48 hS O O O O (cat_r (a := 176) (o' := 260) (BV_size _) (by omega) (cat_r (a := 256) (o' := 4) (BV_size _) (by omega) O)) rr) jj<|dx 20 O (by kernel_rfl) (fun w hS =>mv O O O rr) jj<|dx 21 O (by kernel_rfl) (fun w hS =>subi (by omega) (by omega) O O O O rr) jj<|dx 22 O (by kernel_rfl) (fun w hS =>slx (n1 - 1) un48 sz24 O O O O (by omega) (by omega) ((hq1.st hS).someq (j := n1 - 1) (by first | omega | (simp; done) | (simp; omega))) rr) jj<|dx 23 O (by kernel_rfl) (fun w hS =>ldxq sc24 O O O (hq1.st hS) (by first | omega | (simp; done) | (simp; omega)) rr) jj<|dx 24 O (by kernel_rfl) (fun w hS =>nei O O O O rr) jj<|dx 25 O (by kernel_rfl) (fun w hS =>pk_t O O O O rr) jj<|dx 26 O (by kernel_rfl) (fun w hS =>pk_f O O O O rr) jj<|dx 27 O (by kernel_rfl) (fun w hS =>mv O O O rr) jj ?_
     refine spd 40 O (fun hb4 =>?_) (fun hb4 =>?_)
     ·try simp only [SB] at hb4
      first | (exfalso; omega) | exact absurd rfl hb4 | (rw [glq_0 hl1 (by omega)] at hb4; exact absurd rfl hb4) | (rw [glh_0 hl2 (by omega)] at hb4; exact absurd rfl hb4) | (simp at hb4)
     ·try simp only [SB] at hb4
      refine dx 28 O (by kernel_rfl) (fun w hS =>fan 2 2 un38 O sz4 (by decide) O O O O (by omega) rr) jj<|dx 29 O (by kernel_rfl) (fun w hS =>lo 0 sc4 hS O O O O O rr) jj<|dx 30 O (by kernel_rfl) (fun w hS =>notb O O O rr) jj<|dx 31 O (by kernel_rfl) (fun w hS =>mv O O O rr) jj ?_
      refine spd 44 O (fun hb5 =>?_) (fun hb5 =>?_)
      ·try simp only [SB] at hb5
       refine dx 32 O (by kernel_rfl) (fun w hS =>fan 1 1 un38 O sz24 (by decide) O O O O (by omega) rr) jj<|dx 33 O (by kernel_rfl) (fun w hS =>lo 0 sc24 hS O O O O O rr) jj<|dx 34 O (by kernel_rfl) (fun w hS =>nei O O O O rr) jj<|dx 35 O (by kernel_rfl) (fun w hS =>pk_t O O O O rr) jj<|dx 36 O (by kernel_rfl) (fun w hS =>pk_f O O O O rr) jj<|dx 37 O (by kernel_rfl) (fun w hS =>mv O O O rr) jj ?_
       refine spd 50 O (fun hb6 =>?_) (fun hb6 =>?_)
       ·try simp only [SB] at hb6
        first | (exfalso; omega) | exact absurd rfl hb6 | (rw [glq_0 hl1 (by omega)] at hb6; exact absurd rfl hb6) | (rw [glh_0 hl2 (by omega)] at hb6; exact absurd rfl hb6) | (simp at hb6)
       ·try simp only [SB] at hb6
        refine dx 38 O (by kernel_rfl) (fun w hS =>fan 3 3 un38 O sz3 (by decide) O O O O (by omega) rr) jj<|dx 39 O (by kernel_rfl) (fun w hS =>lo 0 sc3 hS O O O O O rr) jj<|dx 40 O (by kernel_rfl) (fun w hS =>mv O O O rr) jj<|dx 41 O (by kernel_rfl) (fun w hS =>nei O O O O rr) jj<|dx 42 O (by kernel_rfl) (fun w hS =>pk_f O O O O rr) jj<|dx 43 O (by kernel_rfl) (fun w hS =>mv O O O rr) jj ?_
        refine spd 56 O (fun hb7 =>?_) (fun hb7 =>?_)
        ·try simp only [SB] at hb7
         first | (exfalso; omega) | exact absurd rfl hb7 | (rw [glq_0 hl1 (by omega)] at hb7; exact absurd rfl hb7) | (rw [glh_0 hl2 (by omega)] at hb7; exact absurd rfl hb7) | (simp at hb7)
        ·try simp only [SB] at hb7
         refine dx 44 O (by kernel_rfl) (fun w hS =>fan 4 4 un38 O sz3 (by decide) O O O O (by omega) rr) jj<|dx 45 O (by kernel_rfl) (fun w hS =>lo 0 sc3 hS O O O O O rr) jj<|dx 46 O (by kernel_rfl) (fun w hS =>fan 437 437 un53 O sz3 (by decide) O O O O (by omega) rr) jj<|dx 47 O (by kernel_rfl) (fun w hS =>lo 1 sc3 hS O O O O (cat_r (a := 176) (o' := 261) (BV_size _) (by omega) (cat_r (a := 256) (o' := 5) (BV_size _) (by omega) O)) rr) jj<|dx 48 O (by kernel_rfl) (fun w hS =>nei O O O O rr) jj<|dx 49 O (by kernel_rfl) (fun w hS =>pk_f O O O O rr) jj<|de (by kernel_rfl) ?_
         exact mmq ⟨rfl, hS⟩ ⟨rfl, rfl, rfl, rfl, rfl, trivial⟩
      ·try simp only [SB] at hb5
       refine dx 32 O (by kernel_rfl) (fun w hS =>no O O rr) jj<|dx 33 O (by kernel_rfl) (fun w hS =>no O O rr) jj<|dx 34 O (by kernel_rfl) (fun w hS =>no O O rr) jj<|dx 35 O (by kernel_rfl) (fun w hS =>pk_f O O O O rr) jj<|dx 36 O (by kernel_rfl) (fun w hS =>pk_f O O O O rr) jj<|dx 37 O (by kernel_rfl) (fun w hS =>mv O O O rr) jj<|dx 38 O (by kernel_rfl) (fun w hS =>fan 3 3 un38 O sz3 (by decide) O O O O (by omega) rr) jj<|dx 39 O (by kernel_rfl) (fun w hS =>lo 0 sc3 hS O O O O O rr) jj<|dx 40 O (by kernel_rfl) (fun w hS =>mv O O O rr) jj<|dx 41 O (by kernel_rfl) (fun w hS =>nei O O O O rr) jj<|dx 42 O (by kernel_rfl) (fun w hS =>pk_f O O O O rr) jj<|dx 43 O (by kernel_rfl) (fun w hS =>mv O O O rr) jj ?_
       refine spd 56 O (fun hb8 =>?_) (fun hb8 =>?_)
       ·try simp only [SB] at hb8
        first | (exfalso; omega) | exact absurd rfl hb8 | (rw [glq_0 hl1 (by omega)] at hb8; exact absurd rfl hb8) | (rw [glh_0 hl2 (by omega)] at hb8; exact absurd rfl hb8) | (simp at hb8)
       ·try simp only [SB] at hb8
        refine dx 44 O (by kernel_rfl) (fun w hS =>fan 4 4 un38 O sz3 (by decide) O O O O (by omega) rr) jj<|dx 45 O (by kernel_rfl) (fun w hS =>lo 0 sc3 hS O O O O O rr) jj<|dx 46 O (by kernel_rfl) (fun w hS =>fan 437 437 un53 O sz3 (by decide) O O O O (by omega) rr) jj<|dx 47 O (by kernel_rfl) (fun w hS =>lo 1 sc3 hS O O O O (cat_r (a := 176) (o' := 261) (BV_size _) (by omega) (cat_r (a := 256) (o' := 5) (BV_size _) (by omega) O)) rr) jj<|dx 48 O (by kernel_rfl) (fun w hS =>nei O O O O rr) jj<|dx 49 O (by kernel_rfl) (fun w hS =>pk_f O O O O rr) jj<|de (by kernel_rfl) ?_
        exact mmq ⟨rfl, hS⟩ ⟨rfl, rfl, rfl, rfl, rfl, trivial⟩
    ·try simp only [SB] at hb3
     refine dx 16 O (by kernel_rfl) (fun w hS =>no O O rr) jj<|dx 17 O (by kernel_rfl) (fun w hS =>no O O rr) jj<|dx 18 O (by kernel_rfl) (fun w hS =>no O O rr) jj<|dx 19 O (by kernel_rfl) (fun w hS =>no O O rr) jj<|dx 20 O (by kernel_rfl) (fun w hS =>no O O rr) jj<|dx 21 O (by kernel_rfl) (fun w hS =>no O O rr) jj<|dx 22 O (by kernel_rfl) (fun w hS =>no O O rr) jj<|dx 23 O (by kernel_rfl) (fun w hS =>no O O rr) jj<|dx 24 O (by kernel_rfl) (fun w hS =>no O O rr) jj<|dx 25 O (by kernel_rfl) (fun w hS =>pk_f O O O O rr) jj<|dx 26 O (by kernel_rfl) (fun w hS =>pk_f O O O O rr) jj<|dx 27 O (by kernel_rfl) (fun w hS =>mv O O O rr) jj ?_
     refine dx 28 O (by kernel_rfl) (fun w hS =>fan 2 2 un38 O sz4 (by decide) O O O O (by omega) rr) jj<|dx 29 O (by kernel_rfl) (fun w hS =>lo 0 sc4 hS O O O O O rr) jj<|dx 30 O (by kernel_rfl) (fun w hS =>notb O O O rr) jj<|dx 31 O (by kernel_rfl) (fun w hS =>mv O O O rr) jj ?_
     refine spd 44 O (fun hb9 =>?_) (fun hb9 =>?_)
     ·try simp only [SB] at hb9
      refine dx 32 O (by kernel_rfl) (fun w hS =>fan 1 1 un38 O sz24 (by decide) O O O O (by omega) rr) jj<|dx 33 O (by kernel_rfl) (fun w hS =>lo 0 sc24 hS O O O O O rr) jj<|dx 34 O (by kernel_rfl) (fun w hS =>nei O O O O rr) jj<|dx 35 O (by kernel_rfl) (fun w hS =>pk_t O O O O rr) jj<|dx 36 O (by kernel_rfl) (fun w hS =>pk_f O O O O rr) jj<|dx 37 O (by kernel_rfl) (fun w hS =>mv O O O rr) jj ?_
      refine spd 50 O (fun hb10 =>?_) (fun hb10 =>?_)
      ·try simp only [SB] at hb10
       first | (exfalso; omega) | exact absurd rfl hb10 | (rw [glq_0 hl1 (by omega)] at hb10; exact absurd rfl hb10) | (rw [glh_0 hl2 (by omega)] at hb10; exact absurd rfl hb10) | (simp at hb10)
      ·try simp only [SB] at hb10
       refine dx 38 O (by kernel_rfl) (fun w hS =>fan 3 3 un38 O sz3 (by decide) O O O O (by omega) rr) jj<|dx 39 O (by kernel_rfl) (fun w hS =>lo 0 sc3 hS O O O O O rr) jj<|dx 40 O (by kernel_rfl) (fun w hS =>mv O O O rr) jj<|dx 41 O (by kernel_rfl) (fun w hS =>nei O O O O rr) jj<|dx 42 O (by kernel_rfl) (fun w hS =>pk_f O O O O rr) jj<|dx 43 O (by kernel_rfl) (fun w hS =>mv O O O rr) jj ?_
       refine spd 56 O (fun hb11 =>?_) (fun hb11 =>?_)
       ·try simp only [SB] at hb11
        first | (exfalso; omega) | exact absurd rfl hb11 | (rw [glq_0 hl1 (by omega)] at hb11; exact absurd rfl hb11) | (rw [glh_0 hl2 (by omega)] at hb11; exact absurd rfl hb11) | (simp at hb11)
       ·try simp only [SB] at hb11
        refine dx 44 O (by kernel_rfl) (fun w hS =>fan 4 4 un38 O sz3 (by decide) O O O O (by omega) rr) jj<|dx 45 O (by kernel_rfl) (fun w hS =>lo 0 sc3 hS O O O O O rr) jj<|dx 46 O (by kernel_rfl) (fun w hS =>fan 437 437 un53 O sz3 (by decide) O O O O (by omega) rr) jj<|dx 47 O (by kernel_rfl) (fun w hS =>lo 1 sc3 hS O O O O (cat_r (a := 176) (o' := 261) (BV_size _) (by omega) (cat_r (a := 256) (o' := 5) (BV_size _) (by omega) O)) rr) jj<|dx 48 O (by kernel_rfl) (fun w hS =>nei O O O O rr) jj<|dx 49 O (by kernel_rfl) (fun w hS =>pk_f O O O O rr) jj<|de (by kernel_rfl) ?_
        exact mmq ⟨rfl, hS⟩ ⟨rfl, rfl, rfl, rfl, rfl, trivial⟩
     ·try simp only [SB] at hb9
      refine dx 32 O (by kernel_rfl) (fun w hS =>no O O rr) jj<|dx 33 O (by kernel_rfl) (fun w hS =>no O O rr) jj<|dx 34 O (by kernel_rfl) (fun w hS =>no O O rr) jj<|dx 35 O (by kernel_rfl) (fun w hS =>pk_f O O O O rr) jj<|dx 36 O (by kernel_rfl) (fun w hS =>pk_f O O O O rr) jj<|dx 37 O (by kernel_rfl) (fun w hS =>mv O O O rr) jj<|dx 38 O (by kernel_rfl) (fun w hS =>fan 3 3 un38 O sz3 (by decide) O O O O (by omega) rr) jj<|dx 39 O (by kernel_rfl) (fun w hS =>lo 0 sc3 hS O O O O O rr) jj<|dx 40 O (by kernel_rfl) (fun w hS =>mv O O O rr) jj<|dx 41 O (by kernel_rfl) (fun w hS =>nei O O O O rr) jj<|dx 42 O (by kernel_rfl) (fun w hS =>pk_f O O O O rr) jj<|dx 43 O (by kernel_rfl) (fun w hS =>mv O O O rr) jj ?_
      refine spd 56 O (fun hb12 =>?_) (fun hb12 =>?_)
      ·try simp only [SB] at hb12
       first | (exfalso; omega) | exact absurd rfl hb12 | (rw [glq_0 hl1 (by omega)] at hb12; exact absurd rfl hb12) | (rw [glh_0 hl2 (by omega)] at hb12; exact absurd rfl hb12) | (simp at hb12)
      ·try simp only [SB] at hb12
       refine dx 44 O (by kernel_rfl) (fun w hS =>fan 4 4 un38 O sz3 (by decide) O O O O (by omega) rr) jj<|dx 45 O (by kernel_rfl) (fun w hS =>lo 0 sc3 hS O O O O O rr) jj<|dx 46 O (by kernel_rfl) (fun w hS =>fan 437 437 un53 O sz3 (by decide) O O O O (by omega) rr) jj<|dx 47 O (by kernel_rfl) (fun w hS =>lo 1 sc3 hS O O O O (cat_r (a := 176) (o' := 261) (BV_size _) (by omega) (cat_r (a := 256) (o' := 5) (BV_size _) (by omega) O)) rr) jj<|dx 48 O (by kernel_rfl) (fun w hS =>nei O O O O rr) jj<|dx 49 O (by kernel_rfl) (fun w hS =>pk_f O O O O rr) jj<|de (by kernel_rfl) ?_
       exact mmq ⟨rfl, hS⟩ ⟨rfl, rfl, rfl, rfl, rfl, trivial⟩
 ·rintro _ w ⟨rfl, hS⟩
  refine wc_if O (fun hc1 =>?_) (fun hc1 =>?_)
  ·try simp only [SB] at hc1
   first | (exfalso; omega) | exact absurd rfl hc1 | (rw [glq_0 hl1 (by omega)] at hc1; exact absurd rfl hc1) | (rw [glh_0 hl2 (by omega)] at hc1; exact absurd rfl hc1) | (simp at hc1)
  ·try simp only [SB] at hc1
   refine wc_skip<|wt<|rg<|fan 441 441 un53 O sz51 (by decide) O O O O (by omega)<|lo 1 sc51 hS O O O O (cat_r (a := 176) (o' := 265) (BV_size _) (by omega) (cat_r (a := 256) (o' := 9) (BV_size _) (by omega) O))<|lens un51 O O O<|asg O O O<|wt<|wc_seq ?_
   refine sqj (fun l w =>l = [(3, Ptr b3 0), (4, I 0), (5, Ptr b5 0), (102, .bool ((((UInt32.ofNat (estS m.smp n2)).toNat : Int) : Int) != ((estS m.smp n2 : Nat) : Int)))] ∧ St w0 [] [(b5, .cells (#[U64 (m.fs + m.gv), U64 (glq m.acc (n1 - 1)), .bool (decide ((n1 : Int) > 0)), I (((n1 : Nat) : Int)), I (((m.rf : Nat) : Int)), Str m.ad, I (((m.mv : Nat) : Int)), I (((n2 : Nat) : Int)), U16 (glh m.smp (n2 - 1)), .bool (m.cz)]) 38), (b3, .cells (BV (expand m.key) ++ (BV sboxV ++ #[I (((m.dir : Nat) : Int)), U64 (m.fs), U64 (m.gv), .bool (false), .slice a1 n1 c1, I (((m.rf : Nat) : Int)), .bool (m.kp.isSome), I ((((kpS m.kp) : Nat) : Int)), U64 (kpT m.kp), .slice a2 n2 c2, Str m.ad, I (((m.mv : Nat) : Int)), .bool (m.cz)])) 53)] w) ?_ ?_
   ·refine wc_draw mo 37 (fun w =>St w0 [] [(b5, .cells (#[U64 (m.fs + m.gv), U64 (glq m.acc (n1 - 1)), .bool (decide ((n1 : Int) > 0)), I (((n1 : Nat) : Int)), I (((m.rf : Nat) : Int)), Str m.ad, I (((m.mv : Nat) : Int)), I (((n2 : Nat) : Int)), U16 (glh m.smp (n2 - 1)), .bool (m.cz)]) 38), (b3, .cells (BV (expand m.key) ++ (BV sboxV ++ #[I (((m.dir : Nat) : Int)), U64 (m.fs), U64 (m.gv), .bool (false), .slice a1 n1 c1, I (((m.rf : Nat) : Int)), .bool (m.kp.isSome), I ((((kpS m.kp) : Nat) : Int)), U64 (kpT m.kp), .slice a2 n2 c2, Str m.ad, I (((m.mv : Nat) : Int)), .bool (m.cz)])) 53)] w) ?_
    have hS := hS.drew
    refine jx (hS.sl 2 3) fun jj =>dx 0 O (by kernel_rfl) (fun w hS =>fan 7 7 un38 O sz3 (by decide) O O O O (by omega) rr) jj<|dx 1 O (by kernel_rfl) (fun w hS =>lo 0 sc3 hS O O O O O rr) jj<|dx 2 O (by kernel_rfl) (fun w hS =>mv O O O rr) jj<|dx 3 O (by kernel_rfl) (fun w hS =>nei O O O O rr) jj<|dx 4 O (by kernel_rfl) (fun w hS =>mv O O O rr) jj ?_
    refine spd 70 O (fun hb13 =>?_) (fun hb13 =>?_)
    ·try simp only [SB] at hb13
     first | (exfalso; omega) | exact absurd rfl hb13 | (rw [glq_0 hl1 (by omega)] at hb13; exact absurd rfl hb13) | (rw [glh_0 hl2 (by omega)] at hb13; exact absurd rfl hb13) | (simp at hb13)
    ·try simp only [SB] at hb13
     refine dx 5 O (by kernel_rfl) (fun w hS =>mv O O O rr) jj<|dx 6 O (by kernel_rfl) (fun w hS =>gtr O O O O rr) jj<|dx 7 O (by kernel_rfl) (fun w hS =>mv O O O rr) jj ?_
     refine spd 73 O (fun hb14 =>?_) (fun hb14 =>?_)
     ·try simp only [SB] at hb14
      refine dx 8 O (by kernel_rfl) (fun w hS =>fan 8 8 un38 O sz36 (by decide) O O O O (by omega) rr) jj<|dx 9 O (by kernel_rfl) (fun w hS =>lo 0 sc36 hS O O O O O rr) jj<|dx 10 O (by kernel_rfl) (fun w hS =>fan 441 441 un53 O sz51 (by decide) O O O O (by omega) rr) jj<|dx 11 O (by kernel_rfl) (fun w hS =>lo 1 sc51 hS O O O O (cat_r (a := 176) (o' := 265) (BV_size _) (by omega) (cat_r (a := 256) (o' := 9) (BV_size _) (by omega) O)) rr) jj<|dx 12 O (by kernel_rfl) (fun w hS =>mv O O O rr) jj<|dx 13 O (by kernel_rfl) (fun w hS =>subi (by omega) (by omega) O O O O rr) jj<|dx 14 O (by kernel_rfl) (fun w hS =>slx (n2 - 1) un51 sz36 O O O O (by omega) (by omega) ((hh2.st hS).someh (j := n2 - 1) (by first | omega | (simp; done) | (simp; omega))) rr) jj<|dx 15 O (by kernel_rfl) (fun w hS =>ldxh sc36 O O O (hh2.st hS) (by first | omega | (simp; done) | (simp; omega)) rr) jj<|dx 16 O (by kernel_rfl) (fun w hS =>nei O O O O rr) jj<|dx 17 O (by kernel_rfl) (fun w hS =>pk_t O O O O rr) jj<|dx 18 O (by kernel_rfl) (fun w hS =>pk_f O O O O rr) jj<|dx 19 O (by kernel_rfl) (fun w hS =>mv O O O rr) jj ?_
      refine spd 85 O (fun hb15 =>?_) (fun hb15 =>?_)
      ·try simp only [SB] at hb15
       first | (exfalso; omega) | exact absurd rfl hb15 | (rw [glq_0 hl1 (by omega)] at hb15; exact absurd rfl hb15) | (rw [glh_0 hl2 (by omega)] at hb15; exact absurd rfl hb15) | (simp at hb15)
      ·try simp only [SB] at hb15
       refine dx 20 O (by kernel_rfl) (fun w hS =>mv O O O rr) jj<|dx 21 O (by kernel_rfl) (fun w hS =>eqi O O O O rr) jj<|dx 22 O (by kernel_rfl) (fun w hS =>mv O O O rr) jj ?_
       refine spd 88 O (fun hb16 =>?_) (fun hb16 =>?_)
       ·try simp only [SB] at hb16
        exfalso; omega
       ·try simp only [SB] at hb16
        refine dx 23 O (by kernel_rfl) (fun w hS =>no O O rr) jj<|dx 24 O (by kernel_rfl) (fun w hS =>no O O rr) jj<|dx 25 O (by kernel_rfl) (fun w hS =>no O O rr) jj<|dx 26 O (by kernel_rfl) (fun w hS =>pk_f O O O O rr) jj<|dx 27 O (by kernel_rfl) (fun w hS =>pk_f O O O O rr) jj<|dx 28 O (by kernel_rfl) (fun w hS =>mv O O O rr) jj<|dx 29 O (by kernel_rfl) (fun w hS =>mv O O O rr) jj<|dx 32 O (by kernel_rfl) (fun w hS =>fan 441 441 un53 O sz51 (by decide) O O O O (by omega) rr) jj<|dx 33 O (by kernel_rfl) (fun w hS =>lo 1 sc51 hS O O O O (cat_r (a := 176) (o' := 265) (BV_size _) (by omega) (cat_r (a := 256) (o' := 9) (BV_size _) (by omega) O)) rr) jj ?_
        refine dl 30 O (by kernel_rfl)<|cv (v := U32 (UInt32.ofNat (estS m.smp n2))) cf23 hS O O O O O (by have h := sp_session_Session_Estimate s (relS m) X _ hO (fun p hp => hS.old (hX p hp) List.not_mem_nil); rw [show ((relS m)).re = UInt32.ofNat (estS m.smp n2) from by rw [← hl2]; rfl] at h; exact h) fun w hS =>lx (hS.sl 2 3) fun jj =>dx 31 O (by kernel_rfl) (fun w hS =>cvi un3 ⟨_, un72⟩ (by have := (UInt32.ofNat (estS m.smp n2)).toNat_lt; omega) (by have := (UInt32.ofNat (estS m.smp n2)).toNat_lt; omega) O O O rr) jj ?_
        refine dl 34 O (by kernel_rfl)<|cv cf68 hS O O O O O (sp_mooringref20_Estimate a2 n2 c2 m.smp _ hl2 (by omega) (hh2.st hS)) fun w hS =>lx (hS.sl 2 3) fun jj =>dx 35 O (by kernel_rfl) (fun w hS =>nei O O O O rr) jj<|dx 36 O (by kernel_rfl) (fun w hS =>pk_f O O O O rr) jj<|de (by kernel_rfl) ?_
        exact mmq ⟨rfl, hS⟩ ⟨rfl, rfl, rfl, rfl, trivial⟩
     ·try simp only [SB] at hb14
      refine dx 8 O (by kernel_rfl) (fun w hS =>no O O rr) jj<|dx 9 O (by kernel_rfl) (fun w hS =>no O O rr) jj<|dx 10 O (by kernel_rfl) (fun w hS =>no O O rr) jj<|dx 11 O (by kernel_rfl) (fun w hS =>no O O rr) jj<|dx 12 O (by kernel_rfl) (fun w hS =>no O O rr) jj<|dx 13 O (by kernel_rfl) (fun w hS =>no O O rr) jj<|dx 14 O (by kernel_rfl) (fun w hS =>no O O rr) jj<|dx 15 O (by kernel_rfl) (fun w hS =>no O O rr) jj<|dx 16 O (by kernel_rfl) (fun w hS =>no O O rr) jj<|dx 17 O (by kernel_rfl) (fun w hS =>pk_f O O O O rr) jj<|dx 18 O (by kernel_rfl) (fun w hS =>pk_f O O O O rr) jj<|dx 19 O (by kernel_rfl) (fun w hS =>mv O O O rr) jj ?_
      refine dx 20 O (by kernel_rfl) (fun w hS =>mv O O O rr) jj<|dx 21 O (by kernel_rfl) (fun w hS =>eqi O O O O rr) jj<|dx 22 O (by kernel_rfl) (fun w hS =>mv O O O rr) jj ?_
      refine spd 88 O (fun hb17 =>?_) (fun hb17 =>?_)
      ·try simp only [SB] at hb17
       refine dx 23 O (by kernel_rfl) (fun w hS =>fan 8 8 un38 O sz36 (by decide) O O O O (by omega) rr) jj<|dx 24 O (by kernel_rfl) (fun w hS =>lo 0 sc36 hS O O O O O rr) jj<|dx 25 O (by kernel_rfl) (fun w hS =>nei O O O O rr) jj<|dx 26 O (by kernel_rfl) (fun w hS =>pk_t O O O O rr) jj<|dx 27 O (by kernel_rfl) (fun w hS =>pk_f O O O O rr) jj<|dx 28 O (by kernel_rfl) (fun w hS =>mv O O O rr) jj ?_
       refine spd 94 O (fun hb18 =>?_) (fun hb18 =>?_)
       ·try simp only [SB] at hb18
        first | (exfalso; omega) | exact absurd rfl hb18 | (rw [glq_0 hl1 (by omega)] at hb18; exact absurd rfl hb18) | (rw [glh_0 hl2 (by omega)] at hb18; exact absurd rfl hb18) | (simp at hb18)
       ·try simp only [SB] at hb18
        refine dx 29 O (by kernel_rfl) (fun w hS =>mv O O O rr) jj<|dx 32 O (by kernel_rfl) (fun w hS =>fan 441 441 un53 O sz51 (by decide) O O O O (by omega) rr) jj<|dx 33 O (by kernel_rfl) (fun w hS =>lo 1 sc51 hS O O O O (cat_r (a := 176) (o' := 265) (BV_size _) (by omega) (cat_r (a := 256) (o' := 9) (BV_size _) (by omega) O)) rr) jj ?_
        refine dl 30 O (by kernel_rfl)<|cv (v := U32 (UInt32.ofNat (estS m.smp n2))) cf23 hS O O O O O (by have h := sp_session_Session_Estimate s (relS m) X _ hO (fun p hp => hS.old (hX p hp) List.not_mem_nil); rw [show ((relS m)).re = UInt32.ofNat (estS m.smp n2) from by rw [← hl2]; rfl] at h; exact h) fun w hS =>lx (hS.sl 2 3) fun jj =>dx 31 O (by kernel_rfl) (fun w hS =>cvi un3 ⟨_, un72⟩ (by have := (UInt32.ofNat (estS m.smp n2)).toNat_lt; omega) (by have := (UInt32.ofNat (estS m.smp n2)).toNat_lt; omega) O O O rr) jj ?_
        refine dl 34 O (by kernel_rfl)<|cv cf68 hS O O O O O (sp_mooringref20_Estimate a2 n2 c2 m.smp _ hl2 (by omega) (hh2.st hS)) fun w hS =>lx (hS.sl 2 3) fun jj =>dx 35 O (by kernel_rfl) (fun w hS =>nei O O O O rr) jj<|dx 36 O (by kernel_rfl) (fun w hS =>pk_f O O O O rr) jj<|de (by kernel_rfl) ?_
        exact mmq ⟨rfl, hS⟩ ⟨rfl, rfl, rfl, rfl, trivial⟩
      ·try simp only [SB] at hb17
       exfalso; omega
   ·rintro _ w ⟨rfl, hS⟩
    refine wc_if O (fun hc2 =>?_) (fun hc2 =>?_)
    ·try simp only [SB] at hc2
     first | (exfalso; omega) | exact absurd rfl hc2 | (rw [glq_0 hl1 (by omega)] at hc2; exact absurd rfl hc2) | (rw [glh_0 hl2 (by omega)] at hc2; exact absurd rfl hc2) | (simp at hc2)
    ·try simp only [SB] at hc2
     refine wc_skip<|wt<|wc_seq<|rg<|fan 5 5 un38 O sz9 (by decide) O O O O (by omega)<|lo 0 sc9 hS O O O O O<|fan 442 442 un53 O sz9 (by decide) O O O O (by omega)<|lo 1 sc9 hS O O O O (cat_r (a := 176) (o' := 266) (BV_size _) (by omega) (cat_r (a := 256) (o' := 10) (BV_size _) (by omega) O))<|nes O O O O<|mv O O O ?_
     refine spl 108 O (fun hb19 =>?_) (fun hb19 =>?_)
     ·try simp only [SB] at hb19
      first | (exfalso; omega) | exact absurd rfl hb19 | (rw [glq_0 hl1 (by omega)] at hb19; exact absurd rfl hb19) | (rw [glh_0 hl2 (by omega)] at hb19; exact absurd rfl hb19) | (simp at hb19)
     ·try simp only [SB] at hb19
      refine fan 6 6 un38 O sz3 (by decide) O O O O (by omega)<|lo 0 sc3 hS O O O O O<|fan 443 443 un53 O sz3 (by decide) O O O O (by omega)<|lo 1 sc3 hS O O O O (cat_r (a := 176) (o' := 267) (BV_size _) (by omega) (cat_r (a := 256) (o' := 11) (BV_size _) (by omega) O))<|nei O O O O<|pk_f O O O O<|mv O O O ?_
      refine spl 115 O (fun hb20 =>?_) (fun hb20 =>?_)
      ·try simp only [SB] at hb20
       first | (exfalso; omega) | exact absurd rfl hb20 | (rw [glq_0 hl1 (by omega)] at hb20; exact absurd rfl hb20) | (rw [glh_0 hl2 (by omega)] at hb20; exact absurd rfl hb20) | (simp at hb20)
      ·try simp only [SB] at hb20
       refine fan 9 9 un38 O sz4 (by decide) O O O O (by omega)<|lo 0 sc4 hS O O O O O<|fan 444 444 un53 O sz4 (by decide) O O O O (by omega)<|lo 1 sc4 hS O O O O (cat_r (a := 176) (o' := 268) (BV_size _) (by omega) (cat_r (a := 256) (o' := 12) (BV_size _) (by omega) O))<|neb un4 O O O O<|pk_f O O O O<|wt ?_
       refine wc_if O (fun hc3 =>?_) (fun hc3 =>?_)
       ·try simp only [SB] at hc3
        first | (exfalso; omega) | exact absurd rfl hc3 | (rw [glq_0 hl1 (by omega)] at hc3; exact absurd rfl hc3) | (rw [glh_0 hl2 (by omega)] at hc3; exact absurd rfl hc3) | (simp at hc3)
       ·try simp only [SB] at hc3
        refine wc_skip<|wt<|rg<|asg O O O<|wt<|wc_ret<|fin1 (v := I 1) O O ?_
        exact ⟨rfl, hS.drop⟩
theorem sp_mooringref06_Of (b : V8 16) (w0 : World) : Calls Tryz.prog 184 #[.agg (BV b)] w0 (Ret w0 (.agg (BV (ofG b)))) := by
 refine enter (args := [.agg (BV b)]) Tryz.func184 O O<|startw fun w hS =>rg<|bxa hS O O O fun b1 w hb1 hS =>ala zr268 hS O O fun b2 w hb2 hS =>wt<|rg<|ala zr268 hS O O fun b3 w hb3 hS =>wt<|wc_seq<|rg<|asg O O O ?_
 refine wt<|wc_block ?_
 refine wc_loop (σ := Nat) (fun k =>[(1, Ptr b1 0), (2, Ptr b2 0), (3, Ptr b3 0), (4, I ((k : Int)))])
  (fun k w => (k ≤ 16) ∧ St w0 [] [(b3, .cells (BV (gfill (ofGf b) (Vector.replicate 16 0) (k / 4) (k % 4))) 268), (b2, .cells (BV (Vector.replicate 16 0)) 268), (b1, .cells (BV b) 22)] w) (fun k => 16 - k) 0 ⟨rfl, rfl, rfl, rfl, trivial⟩ ⟨by omega, (by rw [show (0 / 4 : Nat) = 0 from rfl, show (0 % 4 : Nat) = 0 from rfl, gfill_0]; exact hS)⟩ ?_
 rintro k w ⟨hk, hS⟩
 refine wc_seq<|rg<|mv O O O<|lss O O O O<|wt ?_
 refine wc_if O (fun hc1 =>?_) (fun hc1 =>?_)
 ·try simp only [SB] at hc1
  refine wc_skip<|wt<|wc_seq<|wc_block<|wc_draw mo 10 (fun w =>St w0 [] [(b2, .cells (BV (Vector.replicate 16 0)) 268), (b1, .cells (BV b) 22)] w)<|have hS := hS.drew; jx (hS.sl 3 6) fun jj =>dx 0 O (by kernel_rfl) (fun w hS =>mv O O O rr) jj<|dx 1 O (by kernel_rfl) (fun w hS =>remi (by omega) (by omega) O O O O rr) jj<|dx 2 O (by kernel_rfl) (fun w hS =>mv O O O rr) jj<|dx 3 O (by kernel_rfl) (fun w hS =>quoi (by omega) (by omega) (by omega) O O O O rr) jj<|dx 4 O (by kernel_rfl) (fun w hS =>mv O O O rr) jj<|dx 5 O (by kernel_rfl) (fun w hS =>ian k k un22 sz5 O O O O (by omega) (by omega) (by omega) rr) jj ?_
  refine dx 6 O (by kernel_rfl) (fun w hS =>lo 1 sc5 hS O O O O (BV_get _ k (by omega)) rr) jj<|dx 7 O (by kernel_rfl) (fun w hS =>ian (k % 4) ((k % 4) * 4) un268 sz205 O O O O (by omega) (by omega) (by omega) rr) jj<|dx 8 O (by kernel_rfl) (fun w hS =>ian (k / 4) ((k % 4) * 4 + (k / 4)) un205 sz5 O O O O (by omega) (by omega) (by omega) rr) jj ?_
  refine dl 9 O (by kernel_rfl)<|st (cs' := BV (gfill (ofGf b) (Vector.replicate 16 0) ((k + 1) / 4) ((k + 1) % 4))) 0 sz5 hS O O O O O O (by rw [BV_size]; omega) (by rw [BV_set, show gv b k = ofGf b (k % 4 * 4 + k / 4) by (rw [ofGf]; exact congrArg (gv b) (by omega))]; exact congrArg BV (gfill_of (ofGf b) _ (by omega))) fun w hS =>lx (hS.sl 3 6) fun jj =>de (by kernel_rfl)<|q_block_norm<|wt<|wc_region<|mv O O O<|addi (by omega) (by omega) O O O O<|asg O O O ?_
  refine again_q (k + 1) ⟨O, O, O, lkI O (by first | omega | rfl), trivial⟩ ⟨by omega, hS⟩ (by omega)
 ·try simp only [SB] at hc1
  refine wc_exit<|q_then_exit<|q_then_exit<|q_block_hit<|wt<|rg<|la 0 ag268 hS O O O O (BV_size _)<|sa 1 ag268 hS O O O (BV_one _) O (BV_size _) (BV_size _) fun w hS =>wt<|wc_ret<|fin1 (v := .agg (BV (gfill (ofGf b) (Vector.replicate 16 0) (k / 4) (k % 4)))) O ⟨_, O, lv_a ag268 (hS.get 1 O) (BV_size _)⟩ ?_
  refine ⟨?_, hS.drop⟩
  have hk5 : k = 16 := by omega
  rw [hk5, show (16 / 4 : Nat) = 4 from rfl, show (16 % 4 : Nat) = 0 from rfl, gfill_end]; rfl
theorem sp_mooringref06_Block (g : V8 16) (w0 : World) : Calls Tryz.prog 189 #[.agg (BV g)] w0 (Ret w0 (.agg (BV (blG g)))) := by
 refine enter (args := [.agg (BV g)]) Tryz.func189 O O<|startw fun w hS =>rg<|bxa hS O O O fun b1 w hb1 hS =>ala zr22 hS O O fun b2 w hb2 hS =>wt<|rg<|ala zr22 hS O O fun b3 w hb3 hS =>wt<|wc_seq<|rg<|asg O O O ?_
 refine wt<|wc_block ?_
 refine wc_loop (σ := Nat) (fun k =>[(1, Ptr b1 0), (2, Ptr b2 0), (3, Ptr b3 0), (4, I ((k : Int)))])
  (fun k w => (k ≤ 16) ∧ St w0 [] [(b3, .cells (BV (fill8 16 (blGf g) (Vector.replicate 16 0) k)) 22), (b2, .cells (BV (Vector.replicate 16 0)) 22), (b1, .cells (BV g) 268)] w) (fun k => 16 - k) 0 ⟨rfl, rfl, rfl, rfl, trivial⟩ ⟨by omega, (by simp only [Nat.zero_mul, Nat.add_zero, fill8_0, fill32_0]; exact hS)⟩ ?_
 rintro k w ⟨hk, hS⟩
 refine wc_seq<|rg<|mv O O O<|lss O O O O<|wt ?_
 refine wc_if O (fun hc1 =>?_) (fun hc1 =>?_)
 ·try simp only [SB] at hc1
  refine wc_skip<|wt<|wc_seq<|wc_block<|wc_region<|mv O O O<|mv O O O<|remi (by omega) (by omega) O O O O<|mv O O O<|quoi (by omega) (by omega) (by omega) O O O O<|ian (k % 4) ((k % 4) * 4) un268 sz205 O O O O (by omega) (by omega) (by omega)<|ian (k / 4) ((k % 4) * 4 + (k / 4)) un205 sz5 O O O O (by omega) (by omega) (by omega) ?_
  refine lo 2 sc5 hS O O O O (BV_get _ ((k % 4) * 4 + (k / 4)) (by omega))<|ian k k un22 sz5 O O O O (by omega) (by omega) (by omega)<|st (cs' := BV (fill8 16 (blGf g) (Vector.replicate 16 0) (k + 1))) 0 sz5 hS O O O O O O (by rw [BV_size]; omega) (by rw [BV_set]; exact congrArg BV (fill8_succ (blGf g) (Vector.replicate 16 0) k)) fun w hS =>q_block_norm<|wt<|wc_region<|mv O O O<|addi (by omega) (by omega) O O O O<|asg O O O ?_
  refine again_q (k + 1) ⟨O, O, O, lkI O (by first | omega | rfl), trivial⟩ ⟨by omega, hS⟩ (by omega)
 ·try simp only [SB] at hc1
  refine wc_exit<|q_then_exit<|q_then_exit<|q_block_hit<|wt<|rg<|la 0 ag22 hS O O O O (BV_size _)<|sa 1 ag22 hS O O O (BV_one _) O (BV_size _) (BV_size _) fun w hS =>wt<|wc_ret<|fin1 (v := .agg (BV (fill8 16 (blGf g) (Vector.replicate 16 0) k))) O ⟨_, O, lv_a ag22 (hS.get 1 O) (BV_size _)⟩ ?_
  refine ⟨?_, hS.drop⟩
  have hk4 : k = 16 := by omega
  subst hk4; rw [fill8_n]; rfl
theorem sp_mooringref06_Sub (g : V8 16) (t : V8 256) (w0 : World) : Calls Tryz.prog 188 #[.agg (BV g), .agg (BV t)] w0 (Ret w0 (.agg (BV (subG g t)))) := by
 refine enter (args := [.agg (BV g), .agg (BV t)]) Tryz.func188 O O<|startw fun w hS =>rg<|bxa hS O O O fun b2 w hb2 hS =>bxa hS O O O fun b3 w hb3 hS =>ala zr268 hS O O fun b4 w hb4 hS =>wt<|wc_seq<|rg<|asg O O O<|wt<|wc_block ?_
 refine wc_loop (σ := Nat) (fun m =>[(2, Ptr b2 0), (3, Ptr b3 0), (4, Ptr b4 0), (5, I ((m : Int)))])
  (fun m w => (m ≤ 4) ∧ St w0 [] [(b4, .cells (BV (Vector.replicate 16 0)) 268), (b3, .cells (BV t) 43), (b2, .cells (BV (fill8 16 (subGf g t) g (m * 4))) 268)] w) (fun m => 4 - m) 0 ⟨rfl, rfl, rfl, rfl, trivial⟩ ⟨by omega, (by rw [Nat.zero_mul, fill8_0]; exact hS)⟩ ?_
 rintro m w ⟨hk, hS⟩
 refine wc_seq<|rg<|mv O O O<|lss O O O O<|wt ?_
 refine wc_if O (fun hc1 =>?_) (fun hc1 =>?_)
 ·try simp only [SB] at hc1
  refine wc_skip<|wt<|wc_seq<|wc_block<|rg<|asg O O O<|wt<|wc_block ?_
  refine wc_loop (σ := Nat) (fun k =>[(2, Ptr b2 0), (3, Ptr b3 0), (4, Ptr b4 0), (5, I ((m : Int))), (6, I ((k : Int)))])
   (fun k w => (k ≤ 4) ∧ St w0 [] [(b4, .cells (BV (Vector.replicate 16 0)) 268), (b3, .cells (BV t) 43), (b2, .cells (BV (fill8 16 (subGf g t) g (m * 4 + k))) 268)] w) (fun k => 4 - k) 0 ⟨rfl, rfl, rfl, rfl, rfl, trivial⟩ ⟨by omega, (by rw [Nat.add_zero]; exact hS)⟩ ?_
  rintro k w ⟨hk, hS⟩
  refine wc_seq<|rg<|mv O O O<|lss O O O O<|wt ?_
  refine wc_if O (fun hc2 =>?_) (fun hc2 =>?_)
  ·try simp only [SB] at hc2
   refine wc_skip<|wt<|wc_seq<|wc_block<|wc_draw mo 12 (fun w =>St w0 [] [(b4, .cells (BV (Vector.replicate 16 0)) 268), (b3, .cells (BV t) 43)] w)<|have hS := hS.drew; jx (hS.sl 2 3) fun jj =>dx 0 O (by kernel_rfl) (fun w hS =>mv O O O rr) jj<|dx 1 O (by kernel_rfl) (fun w hS =>mv O O O rr) jj<|dx 2 O (by kernel_rfl) (fun w hS =>mv O O O rr) jj<|dx 3 O (by kernel_rfl) (fun w hS =>mv O O O rr) jj<|dx 4 O (by kernel_rfl) (fun w hS =>ian m (m * 4) un268 sz205 O O O O (by omega) (by omega) (by omega) rr) jj<|dx 5 O (by kernel_rfl) (fun w hS =>ian k (m * 4 + k) un205 sz5 O O O O (by omega) (by omega) (by omega) rr) jj ?_
   refine dx 9 O (by kernel_rfl) (fun w hS =>ian m (m * 4) un268 sz205 O O O O (by omega) (by omega) (by omega) rr) jj ?_
   refine dl 6 O (by kernel_rfl)<|lo 2 sc5 hS O O O O (BV_get _ (m * 4 + k) (by omega))<|lx (hS.sl 2 3) fun jj =>dx 7 O (by kernel_rfl) (fun w hS =>ian ((gv (fill8 16 (subGf g t) g (m * 4 + k)) (m * 4 + k)).toNat) (((gv (fill8 16 (subGf g t) g (m * 4 + k)) (m * 4 + k)).toNat)) un43 sz5 O O O O (by omega) (by have := (gv (fill8 16 (subGf g t) g (m * 4 + k)) (m * 4 + k)).toNat_lt; omega) (by omega) rr) jj<|dx 8 O (by kernel_rfl) (fun w hS =>lo 1 sc5 hS O O O O (BV_get _ ((gv (fill8 16 (subGf g t) g (m * 4 + k)) (m * 4 + k)).toNat) (by have := (gv (fill8 16 (subGf g t) g (m * 4 + k)) (m * 4 + k)).toNat_lt; omega)) rr) jj<|dx 10 O (by kernel_rfl) (fun w hS =>ian k (m * 4 + k) un205 sz5 O O O O (by omega) (by omega) (by omega) rr) jj ?_
   refine dl 11 O (by kernel_rfl)<|st (cs' := BV (fill8 16 (subGf g t) g (m * 4 + k + 1))) 2 sz5 hS O O O O O O (by rw [BV_size]; omega) (by rw [BV_set, gv_fill_ge _ _ (Nat.le_refl _)]; exact congrArg BV (fill8_succ (subGf g t) g (m * 4 + k))) fun w hS =>lx (hS.sl 2 3) fun jj =>de (by kernel_rfl)<|q_block_norm<|wt<|wc_region<|mv O O O<|addi (by omega) (by omega) O O O O<|asg O O O ?_
   refine again_q (k + 1) ⟨O, O, O, O, lkI O (by first | omega | rfl), trivial⟩ ⟨by omega, (by rw [Nat.add_assoc] at hS; exact hS)⟩ (by omega)
  ·try simp only [SB] at hc2
   have hk4 : k = 4 := by omega
   rw [hk4, show m * 4 + 4 = (m + 1) * 4 by omega] at hS
   refine wc_exit<|q_then_exit<|q_then_exit<|q_block_hit<|q_block_norm<|wt<|wc_region<|mv O O O<|addi (by omega) (by omega) O O O O<|asg O O O ?_
   refine again_q (m + 1) ⟨O, O, O, lkI O (by first | omega | rfl), trivial⟩ ⟨by omega, hS⟩ (by omega)
 ·try simp only [SB] at hc1
  refine wc_exit<|q_then_exit<|q_then_exit<|q_block_hit<|wt<|rg<|la 2 ag268 hS O O O O (BV_size _)<|sa 0 ag268 hS O O O (BV_one _) O (BV_size _) (BV_size _) fun w hS =>wt<|wc_ret<|fin1 (v := .agg (BV (fill8 16 (subGf g t) g (m * 4)))) O ⟨_, O, lv_a ag268 (hS.get 0 O) (BV_size _)⟩ ?_
  refine ⟨?_, hS.drop⟩
  have hm4 : m = 4 := by omega
  rw [hm4, show 4 * 4 = 16 from rfl, fill8_n]; rfl
theorem sp_mooringref06_Add (g h : V8 16) (w0 : World) : Calls Tryz.prog 185 #[.agg (BV g), .agg (BV h)] w0 (Ret w0 (.agg (BV (addG g h)))) := by
 refine enter (args := [.agg (BV g), .agg (BV h)]) Tryz.func185 O O<|startw fun w hS =>rg<|bxa hS O O O fun b2 w hb2 hS =>bxa hS O O O fun b3 w hb3 hS =>ala zr268 hS O O fun b4 w hb4 hS =>wt<|rg<|la 1 ag22 hS O O O O (BV_size _)<|cv cf184 hS O O O O O (sp_mooringref06_Of h _) fun w hS =>ala zr268 hS O O fun b5 w hb5 hS =>sa 0 ag268 hS O O O (BV_one _) O (BV_size _) (BV_size _) fun w hS =>?_
 refine wt<|wc_seq<|rg<|asg O O O<|wt<|wc_block ?_
 refine wc_loop (σ := Nat) (fun m =>[(2, Ptr b2 0), (4, Ptr b4 0), (5, Ptr b5 0), (6, I ((m : Int)))])
  (fun m w => (m ≤ 4) ∧ St w0 [] [(b5, .cells (BV (ofG h)) 268), (b4, .cells (BV (Vector.replicate 16 0)) 268), (b3, .cells (BV h) 22), (b2, .cells (BV (fill8 16 (addGf g h) g (m * 4))) 268)] w) (fun m => 4 - m) 0 ⟨rfl, rfl, rfl, rfl, trivial⟩ ⟨by omega, (by rw [Nat.zero_mul, fill8_0]; exact hS)⟩ ?_
 rintro m w ⟨hk, hS⟩
 refine wc_seq<|rg<|mv O O O<|lss O O O O<|wt ?_
 refine wc_if O (fun hc1 =>?_) (fun hc1 =>?_)
 ·try simp only [SB] at hc1
  refine wc_skip<|wt<|wc_seq<|wc_block<|rg<|asg O O O<|wt<|wc_block ?_
  refine wc_loop (σ := Nat) (fun k =>[(2, Ptr b2 0), (4, Ptr b4 0), (5, Ptr b5 0), (6, I ((m : Int))), (7, I ((k : Int)))])
   (fun k w => (k ≤ 4) ∧ St w0 [] [(b5, .cells (BV (ofG h)) 268), (b4, .cells (BV (Vector.replicate 16 0)) 268), (b3, .cells (BV h) 22), (b2, .cells (BV (fill8 16 (addGf g h) g (m * 4 + k))) 268)] w) (fun k => 4 - k) 0 ⟨rfl, rfl, rfl, rfl, rfl, trivial⟩ ⟨by omega, (by rw [Nat.add_zero]; exact hS)⟩ ?_
  rintro k w ⟨hk, hS⟩
  refine wc_seq<|rg<|mv O O O<|lss O O O O<|wt ?_
  refine wc_if O (fun hc2 =>?_) (fun hc2 =>?_)
  ·try simp only [SB] at hc2
   refine wc_skip<|wt<|wc_seq<|wc_block<|wc_draw mo 16 (fun w =>St w0 [] [(b5, .cells (BV (ofG h)) 268), (b4, .cells (BV (Vector.replicate 16 0)) 268), (b3, .cells (BV h) 22)] w)<|have hS := hS.drew; jx (hS.sl 3 7) fun jj =>dx 0 O (by kernel_rfl) (fun w hS =>mv O O O rr) jj<|dx 1 O (by kernel_rfl) (fun w hS =>mv O O O rr) jj<|dx 2 O (by kernel_rfl) (fun w hS =>mv O O O rr) jj<|dx 3 O (by kernel_rfl) (fun w hS =>mv O O O rr) jj<|dx 4 O (by kernel_rfl) (fun w hS =>ian m (m * 4) un268 sz205 O O O O (by omega) (by omega) (by omega) rr) jj<|dx 5 O (by kernel_rfl) (fun w hS =>ian k (m * 4 + k) un205 sz5 O O O O (by omega) (by omega) (by omega) rr) jj ?_
   refine dx 7 O (by kernel_rfl) (fun w hS =>mv O O O rr) jj<|dx 8 O (by kernel_rfl) (fun w hS =>mv O O O rr) jj<|dx 9 O (by kernel_rfl) (fun w hS =>ian m (m * 4) un268 sz205 O O O O (by omega) (by omega) (by omega) rr) jj<|dx 10 O (by kernel_rfl) (fun w hS =>ian k (m * 4 + k) un205 sz5 O O O O (by omega) (by omega) (by omega) rr) jj<|dx 11 O (by kernel_rfl) (fun w hS =>lo 0 sc5 hS O O O O (BV_get _ (m * 4 + k) (by omega)) rr) jj<|dx 13 O (by kernel_rfl) (fun w hS =>ian m (m * 4) un268 sz205 O O O O (by omega) (by omega) (by omega) rr) jj ?_
   refine dl 6 O (by kernel_rfl)<|lo 3 sc5 hS O O O O (BV_get _ (m * 4 + k) (by omega))<|lx (hS.sl 3 7) fun jj =>dx 12 O (by kernel_rfl) (fun w hS =>xor8 O O O O rr) jj<|dx 14 O (by kernel_rfl) (fun w hS =>ian k (m * 4 + k) un205 sz5 O O O O (by omega) (by omega) (by omega) rr) jj ?_
   refine dl 15 O (by kernel_rfl)<|st (cs' := BV (fill8 16 (addGf g h) g (m * 4 + k + 1))) 3 sz5 hS O O O O O O (by rw [BV_size]; omega) (by rw [BV_set, gv_fill_ge _ _ (Nat.le_refl _)]; exact congrArg BV (fill8_succ (addGf g h) g (m * 4 + k))) fun w hS =>lx (hS.sl 3 7) fun jj =>de (by kernel_rfl)<|q_block_norm<|wt<|wc_region<|mv O O O<|addi (by omega) (by omega) O O O O<|asg O O O ?_
   refine again_q (k + 1) ⟨O, O, O, O, lkI O (by first | omega | rfl), trivial⟩ ⟨by omega, (by rw [Nat.add_assoc] at hS; exact hS)⟩ (by omega)
  ·try simp only [SB] at hc2
   have hk4 : k = 4 := by omega
   rw [hk4, show m * 4 + 4 = (m + 1) * 4 by omega] at hS
   refine wc_exit<|q_then_exit<|q_then_exit<|q_block_hit<|q_block_norm<|wt<|wc_region<|mv O O O<|addi (by omega) (by omega) O O O O<|asg O O O ?_
   refine again_q (m + 1) ⟨O, O, O, lkI O (by first | omega | rfl), trivial⟩ ⟨by omega, hS⟩ (by omega)
 ·try simp only [SB] at hc1
  refine wc_exit<|q_then_exit<|q_then_exit<|q_block_hit<|wt<|rg<|la 3 ag268 hS O O O O (BV_size _)<|sa 1 ag268 hS O O O (BV_one _) O (BV_size _) (BV_size _) fun w hS =>wt<|wc_ret<|fin1 (v := .agg (BV (fill8 16 (addGf g h) g (m * 4)))) O ⟨_, O, lv_a ag268 (hS.get 1 O) (BV_size _)⟩ ?_
  refine ⟨?_, hS.drop⟩
  have hm4 : m = 4 := by omega
  rw [hm4, show 4 * 4 = 16 from rfl, fill8_n]; rfl
end Go.Proofs.XS
