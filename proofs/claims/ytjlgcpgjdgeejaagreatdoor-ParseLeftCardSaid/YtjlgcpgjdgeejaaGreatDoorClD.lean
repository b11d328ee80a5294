/- A part of the claim: general tools, trees of the program, and what its functions come to (PExprs to TrC). Conditions: as its theorems say. -/
import Derived.Test.YtjlgcpgjdgeejaaGreatDoorClC
import Derived.Test.YtjlgcpgjdgeejaaGreatDoorProg

/- The parser of expressions. Conditions: none. -/
section
namespace Go.Proofs.YtjlgcpgjdgeejaaGreatDoor
open Go
set_option linter.unusedSimpArgs false
set_option linter.unusedVariables false
set_option linter.constructorNameAsVariable false
set_option maxRecDepth 100000

theorem words_m {ε σ : Type} (I : Ifc ε σ) (s : ByteArray) : Meets PG I (callS F_syntax_words #[.string s]) tI (Pure.pure (wordsI s)) RelEq [] := by
  refine c_syntax_words s ?_
  unfold t_syntax_words
  have fin : ∀ (c : Int), c = wordsI s → Sim PG I tI (pl RelEq) noLabel none (.ret #[.v (.int .i64 c)]) (Pure.pure (wordsI s)) [] [] := fun c hc => sim_ret1 (t := tI) c rfl (fun F _ => hc)
  refine sim_ite (fun h1 => fin _ (by unfold wordsI; rw [h1]; rfl)) fun h1 => ?_
  refine sim_ite (fun h2 => fin _ (by unfold wordsI; rw [h1, h2]; rfl)) fun h2 => ?_
  refine sim_ite (fun h3 => fin _ (by unfold wordsI; rw [h1, h2, h3]; rfl)) fun h3 => ?_
  refine sim_ite (fun h4 => fin _ (by unfold wordsI; rw [h1, h2, h3, h4]; rfl)) fun h4 => ?_
  refine sim_ite (fun h5 => fin _ (by unfold wordsI; rw [h1, h2, h3, h4, h5]; rfl)) fun h5 => ?_
  exact fin _ (by unfold wordsI; rw [h1, h2, h3, h4, h5]; rfl)
theorem arrow_m (pb : Nat) : Meets PG (PI pb) (callS F_parser_arrow #[.pointer (some (pAt pb))]) tB arrowS RelEq [] := by
  refine c_parser_arrow (pAt pb) ?_
  unfold t_parser_arrow arrowS
  (repeat (first | with_reducible refine Sim.assoc ?_ | with_reducible refine Sim.pb ?_ | with_reducible refine Sim.ct ?_ | with_reducible refine Sim.cf ?_ | with_reducible refine Sim.ctb ?_ | with_reducible refine Sim.cfb ?_))
  first | refine sim_op (now_m _) (fun _ h => nomatch h) fun r1 b => Sim.prop fun h => ?_ | refine sim_op1 (now_m _) (fun _ h => nomatch h) fun r1 b => Sim.prop fun h => ?_
  subst h
  (repeat (first | with_reducible refine Sim.assoc ?_ | with_reducible refine Sim.pb ?_ | with_reducible refine Sim.ct ?_ | with_reducible refine Sim.cf ?_ | with_reducible refine Sim.ctb ?_ | with_reducible refine Sim.cfb ?_))
  (first | refine sim_cond (fun h => ?_) (fun h => ?_) | refine sim_condb (fun h => ?_) (fun h => ?_) | refine sim_condn (fun h => ?_) (fun h => ?_) | refine sim_condnb (fun h => ?_) (fun h => ?_) | refine sim_ite (fun h => ?_) (fun h => ?_)) -- ((r1.1 : Int) == 1)
  · skip
    (repeat (first | with_reducible refine Sim.assoc ?_ | with_reducible refine Sim.pb ?_ | with_reducible refine Sim.ct ?_ | with_reducible refine Sim.cf ?_ | with_reducible refine Sim.ctb ?_ | with_reducible refine Sim.cfb ?_))
    first | refine sim_op (then_m _ _ (by decide) (by decide)) (fun _ h => nomatch h) fun r2 b => Sim.prop fun h => ?_ | refine sim_op1 (then_m _ _ (by decide) (by decide)) (fun _ h => nomatch h) fun r2 b => Sim.prop fun h => ?_
    subst h
    refine sim_val (says_m _ _ _) (fun _ h => nomatch h) ?_
    exact sim_ret1 (t := tB) _ rfl (fun F _ => rfl)
  · skip
    (repeat (first | with_reducible refine Sim.assoc ?_ | with_reducible refine Sim.pb ?_ | with_reducible refine Sim.ct ?_ | with_reducible refine Sim.cf ?_ | with_reducible refine Sim.ctb ?_ | with_reducible refine Sim.cfb ?_))
    first | refine sim_op (is_m _ _) (fun _ h => nomatch h) fun r4 b => Sim.prop fun h => ?_ | refine sim_op1 (is_m _ _) (fun _ h => nomatch h) fun r4 b => Sim.prop fun h => ?_
    subst h
    (repeat (first | with_reducible refine Sim.assoc ?_ | with_reducible refine Sim.pb ?_ | with_reducible refine Sim.ct ?_ | with_reducible refine Sim.cf ?_ | with_reducible refine Sim.ctb ?_ | with_reducible refine Sim.cfb ?_))
    (first | refine sim_cond (fun h => ?_) (fun h => ?_) | refine sim_condb (fun h => ?_) (fun h => ?_) | refine sim_condn (fun h => ?_) (fun h => ?_) | refine sim_condnb (fun h => ?_) (fun h => ?_) | refine sim_ite (fun h => ?_) (fun h => ?_)) -- r4
    · skip
      (repeat (first | with_reducible refine Sim.assoc ?_ | with_reducible refine Sim.pb ?_ | with_reducible refine Sim.ct ?_ | with_reducible refine Sim.cf ?_ | with_reducible refine Sim.ctb ?_ | with_reducible refine Sim.cfb ?_))
      first | refine sim_op (closed_m _) (fun _ h => nomatch h) fun r5 b => Sim.prop fun h => ?_ | refine sim_op1 (closed_m _) (fun _ h => nomatch h) fun r5 b => Sim.prop fun h => ?_
      subst h
      refine sim_val (says_m _ _ _) (fun _ h => nomatch h) ?_
      exact sim_ret1 (t := tB) _ rfl (fun F _ => rfl)
    · skip
      (repeat (first | with_reducible refine Sim.assoc ?_ | with_reducible refine Sim.pb ?_ | with_reducible refine Sim.ct ?_ | with_reducible refine Sim.cf ?_ | with_reducible refine Sim.ctb ?_ | with_reducible refine Sim.cfb ?_))
      first | refine sim_op (is_m _ _) (fun _ h => nomatch h) fun r7 b => Sim.prop fun h => ?_ | refine sim_op1 (is_m _ _) (fun _ h => nomatch h) fun r7 b => Sim.prop fun h => ?_
      subst h
      exact sim_ret1 (t := tB) _ rfl (fun F _ => rfl)
theorem given_m {R : PRec} (hR : PRecM R) (pb : Nat) : Meets PG (PI pb) (callS F_parser_given #[.pointer (some (pAt pb))]) tP (givenS R) NodeF [] := by
  refine c_parser_given (pAt pb) ?_
  unfold t_parser_given givenS
  (repeat (first | with_reducible refine Sim.assoc ?_ | with_reducible refine Sim.pb ?_ | with_reducible refine Sim.ct ?_ | with_reducible refine Sim.cf ?_ | with_reducible refine Sim.ctb ?_ | with_reducible refine Sim.cfb ?_))
  first | refine sim_op (must_m _ _) (fun _ h => nomatch h) fun x b => ?_ | refine sim_op1 (must_m _ _) (fun _ h => nomatch h) fun x b => ?_
  (repeat (first | with_reducible refine Sim.assoc ?_ | with_reducible refine Sim.pb ?_ | with_reducible refine Sim.ct ?_ | with_reducible refine Sim.cf ?_ | with_reducible refine Sim.ctb ?_ | with_reducible refine Sim.cfb ?_))
  first | refine sim_op (empty_m _) (fun _ h => nomatch h) fun r2 nr2 => ?_ | refine sim_op1 (empty_m _) (fun _ h => nomatch h) fun r2 nr2 => ?_
  (repeat (first | with_reducible refine Sim.assoc ?_ | with_reducible refine Sim.pb ?_ | with_reducible refine Sim.ct ?_ | with_reducible refine Sim.cf ?_ | with_reducible refine Sim.ctb ?_ | with_reducible refine Sim.cfb ?_))
  first | refine sim_op (is_m _ _) (fun _ h => nomatch h) fun r3 b => Sim.prop fun h => ?_ | refine sim_op1 (is_m _ _) (fun _ h => nomatch h) fun r3 b => Sim.prop fun h => ?_
  subst h
  (repeat (first | with_reducible refine Sim.assoc ?_ | with_reducible refine Sim.pb ?_ | with_reducible refine Sim.ct ?_ | with_reducible refine Sim.cf ?_ | with_reducible refine Sim.ctb ?_ | with_reducible refine Sim.cfb ?_))
  (first | refine sim_cond (fun h => ?_) (fun h => ?_) | refine sim_condb (fun h => ?_) (fun h => ?_) | refine sim_condn (fun h => ?_) (fun h => ?_) | refine sim_condnb (fun h => ?_) (fun h => ?_) | refine sim_ite (fun h => ?_) (fun h => ?_)) -- (!r3)
  · skip
    (repeat (first | with_reducible refine Sim.assoc ?_ | with_reducible refine Sim.pb ?_ | with_reducible refine Sim.ct ?_ | with_reducible refine Sim.cf ?_ | with_reducible refine Sim.ctb ?_ | with_reducible refine Sim.cfb ?_))
    first | refine sim_opO (list_m pb _ _ R.fuel (Nat.le_trans hR.fuel (by decide)) (MeetsO.congr (run_callv1 _ _) (hR.expr _))) (fun _ h => nomatch h) fun r4 nr4 Kr4 => ?_ | refine sim_op1O (list_m pb _ _ R.fuel (Nat.le_trans hR.fuel (by decide)) (MeetsO.congr (run_callv1 _ _) (hR.expr _))) (fun _ h => nomatch h) fun r4 nr4 Kr4 => ?_
    refine sim_doneM (by repeat (first | exact List.mem_cons_self .. | apply List.mem_cons_of_mem)) ?_
    (repeat (first | with_reducible refine Sim.assoc ?_ | with_reducible refine Sim.pb ?_ | with_reducible refine Sim.ct ?_ | with_reducible refine Sim.cf ?_ | with_reducible refine Sim.ctb ?_ | with_reducible refine Sim.cfb ?_))
    first | refine sim_op (must_m _ _) (fun _ h => nomatch h) fun x b => ?_ | refine sim_op1 (must_m _ _) (fun _ h => nomatch h) fun x b => ?_
    (repeat (first | with_reducible refine Sim.assoc ?_ | with_reducible refine Sim.pb ?_ | with_reducible refine Sim.ct ?_ | with_reducible refine Sim.cf ?_ | with_reducible refine Sim.ctb ?_ | with_reducible refine Sim.cfb ?_))
    exact sim_ret1 (t := tP) _ rfl (fun F hF => hF _ (by repeat (first | exact List.mem_cons_self .. | apply List.mem_cons_of_mem)))
  · skip
    (repeat (first | with_reducible refine Sim.assoc ?_ | with_reducible refine Sim.pb ?_ | with_reducible refine Sim.ct ?_ | with_reducible refine Sim.cf ?_ | with_reducible refine Sim.ctb ?_ | with_reducible refine Sim.cfb ?_))
    first | refine sim_op (must_m _ _) (fun _ h => nomatch h) fun x b => ?_ | refine sim_op1 (must_m _ _) (fun _ h => nomatch h) fun x b => ?_
    (repeat (first | with_reducible refine Sim.assoc ?_ | with_reducible refine Sim.pb ?_ | with_reducible refine Sim.ct ?_ | with_reducible refine Sim.cf ?_ | with_reducible refine Sim.ctb ?_ | with_reducible refine Sim.cfb ?_))
    exact sim_ret1 (t := tP) _ rfl (fun F hF => hF _ (by repeat (first | exact List.mem_cons_self .. | apply List.mem_cons_of_mem)))
theorem template_m {R : PRec} (hR : PRecM R) (pb : Nat) : Meets PG (PI pb) (callS F_parser_template #[.pointer (some (pAt pb))]) tP (templateS R) NodeF [] := by
  refine c_parser_template (pAt pb) ?_
  unfold t_parser_template templateS
  refine sim_op (next_m _) (fun _ h => nomatch h) fun r1 b => Sim.prop fun h => ?_
  subst h
  refine sim_loc (loc_alloc (z := [.int .i64 0, .string kE, .int .i64 0, .int .i64 0]) (by kernel_rfl)) ?_
  rintro _ _ _ ⟨b2, rfl, rfl, rfl⟩
  refine sim_loc (loc_st (L1 := []) (T := T_api_Token) (c := true) rfl (by kernel_rfl) rfl (Nat.le_of_ble_eq_true rfl) (by simp [Value.cells, Value.oneCell'])) ?_
  rintro _ _ _ ⟨rfl, rfl⟩
  show Sim PG (PI pb) tP (pl NodeF) noLabel none _ _ [(b2, blk T_api_Token (encTok r1))] _
  refine sim_draw [(b2, blk T_api_Token (encTok r1))] (fun p hp => hp) ?_
  refine sim_opq (t1 := tI) (Tok.pos r1) (qval_ld1 (QRd.own (List.mem_cons_self ..)) (by kernel_rfl) rfl rfl) ?_
  refine sim_opq (t1 := tS) (Tok.text r1) (qval_ld1 (QRd.own (List.mem_cons_self ..)) (by kernel_rfl) rfl rfl) ?_
  refine sim_opq (t1 := tI) (Tok.pos r1) (qval_ld1 (QRd.own (List.mem_cons_self ..)) (by kernel_rfl) rfl rfl) ?_
  refine sim_made0l fun r7 => ?_
  refine sim_locl (loc_ptrs_own [r7] rfl (by decide) (by decide) (by kernel_rfl)) ?_
  rintro x _ _ ⟨K2, rfl, rfl, hb⟩
  refine ⟨fun p hp => List.mem_append_right _ hp, ?_⟩
  refine sim_locl (made_loc _ _ _ _ x) ?_
  rintro _ _ _ ⟨bx, rfl, rfl, rfl⟩
  refine ⟨fun p hp => List.mem_cons_of_mem _ (List.mem_append_right _ hp), ?_⟩
  refine Sim.know (A := OwnN (mkN 12 kE 0 (Tok.pos r1) [mkN 11 (Tok.text r1) 0 (Tok.pos r1) []]) (some ⟨bx, 0, none⟩) (ownBlk bx (mkN 12 kE 0 (Tok.pos r1) [mkN 11 (Tok.text r1) 0 (Tok.pos r1) []]) x :: K2)) (fun F hF => ⟨bx, x, [r7], K2, ⟨rfl, rfl, hb⟩, NodesAt.one (hF _ (by repeat (first | exact List.mem_cons_self .. | apply List.mem_cons_of_mem)))⟩) ?_
  refine sim_fuel (δ := Tok × N) (fun k d => piecesTS R k d.1 d.2) (fun k d vs L' => Fact.ex fun K : Own => (Fact.prop (vs = [] ∧ L' = K ++ [(b2, blk T_api_Token (encTok d.1))] ∧ d.2.kids.length + 2 * k ≤ 2199023255552)).both (OwnN d.2 (some ⟨bx, 0, none⟩) K)) R.fuel (r1, _) (fun _ => rfl) rfl
    (fun F hF => ⟨ownBlk bx _ x :: K2, ⟨rfl, rfl, by have := hR.fuel; show 1 + 2 * R.fuel ≤ _; omega⟩, hF _ (List.mem_cons_self ..)⟩) (by rintro k d vs L' F ⟨K, ⟨rfl, _⟩, _⟩; exact ⟨(), rfl⟩) ?_
  rintro k ⟨t, n⟩ L' ⟨⟩
  refine Sim.ex fun K => Sim.both (Sim.prop fun ⟨_, hL, hn⟩ => ?_)
  subst hL
  simp only at hn
  have hm : (b2, blk T_api_Token (encTok t)) ∈ K ++ [(b2, blk T_api_Token (encTok t))] := List.mem_append_right _ (List.mem_cons_self ..)
  refine sim_joinB (s' := fun c => cond c (do
      let x ← R.expr
      let u ← nowS
      cond (u.kind != 7 && u.kind != 8) failS do
        let v ← nextS
        piecesTS R k v ((n.push x).push (mkN 11 v.text 0 v.pos []))) (pure n)) ?_ fun x13 => ?_
  · refine sim_loc (loc_ld1 (b1 := .int .i64) (x := Tok.kind t) (Rd.own hm) (by kernel_rfl) rfl rfl) ?_
    rintro _ _ _ ⟨rfl, rfl, rfl⟩
    refine sim_ite (fun h => ?_) (fun h => ?_)
    · refine sim_loc (loc_ld1 (b1 := .int .i64) (x := Tok.kind t) (Rd.own hm) (by kernel_rfl) rfl rfl) ?_
      rintro _ _ _ ⟨rfl, rfl, rfl⟩
      exact sim_outB _ rfl (by show cond (Tok.kind t != 5 && Tok.kind t != 8) _ _ = _; rw [show (Tok.kind t != 5) = true from h, Bool.true_and])
    · exact sim_outB _ rfl (by show cond (Tok.kind t != 5 && Tok.kind t != 8) _ _ = _; rw [show (Tok.kind t != 5) = false from h, Bool.false_and])
  · refine sim_cond (fun h => ?_) (fun h => ?_)
    · refine sim_growME [(b2, blk T_api_Token (encTok t))] (fun p hp => hp) (by repeat (first | exact List.mem_cons_self .. | apply List.mem_cons_of_mem)) fun b sl ps K2 hx hb => ?_
      refine sim_opl (hR.expr _) (fun _ h => nomatch h) fun r16 nr16 => ?_
      obtain rfl : bx = b := by cases hx; rfl
      refine sim_pushE (fun p hp => hp) hb (by repeat (first | exact List.mem_cons_self .. | apply List.mem_cons_of_mem)) (by repeat (first | exact List.mem_cons_self .. | apply List.mem_cons_of_mem)) (by omega) fun K => ?_
      refine sim_op (now_m _) (fun _ h => nomatch h) fun r21 b => Sim.prop fun h => ?_
      subst h
      refine sim_joinB (s' := fun c => cond c failS do
        let v ← nextS
        piecesTS R k v ((n.push nr16).push (mkN 11 v.text 0 v.pos []))) ?_ fun x22 => ?_
      · refine sim_ite (fun h => ?_) (fun h => ?_)
        · exact sim_outB _ rfl (by rw [show (Tok.kind r21 != 7) = true from h, Bool.true_and]; rfl)
        · exact sim_outB _ rfl (by rw [show (Tok.kind r21 != 7) = false from h, Bool.false_and])
      · first | refine sim_joinFail ?_ ?_ | refine sim_joinU failS ?_ ?_
        · refine sim_cond (fun h => ?_) (fun h => ?_)
          · exact sim_fails (β1 := Unit) (Rel1 := fun _ _ _ => Fact.prop True) (fail_m _) (fun _ h => nomatch h) (by first | exact errs_fail | exact errs_failb _)
          · exact sim_outU rfl rfl
        · refine sim_op (next_m _) (fun _ h => nomatch h) fun r25 b => Sim.prop fun h => ?_
          subst h
          refine sim_loc (loc_st (L1 := K) (L2 := []) (T := T_api_Token) (c := true) rfl (by kernel_rfl) rfl (Nat.le_of_ble_eq_true rfl) (by simp [Value.cells, Value.oneCell'])) ?_
          rintro _ _ _ ⟨rfl, rfl⟩
          show Sim PG (PI pb) tP (pl NodeF) _ none _ _ (K ++ [(b2, blk T_api_Token (encTok r25))]) _
          refine sim_growME [(b2, blk T_api_Token (encTok r25))] (fun p hp => hp) (by repeat (first | exact List.mem_cons_self .. | apply List.mem_cons_of_mem)) fun b sl ps K2 hx hb => ?_
          refine sim_opq (t1 := tS) (Tok.text r25) (qval_ld1 (QRd.own (List.mem_cons_of_mem _ (List.mem_cons_self ..))) (by kernel_rfl) rfl rfl) ?_
          refine sim_opq (t1 := tI) (Tok.pos r25) (qval_ld1 (QRd.own (List.mem_cons_of_mem _ (List.mem_cons_self ..))) (by kernel_rfl) rfl rfl) ?_
          refine sim_made0l fun r31 => ?_
          obtain rfl : bx = b := by cases hx; rfl
          refine sim_pushE (fun p hp => hp) hb (by repeat (first | exact List.mem_cons_self .. | apply List.mem_cons_of_mem)) (by repeat (first | exact List.mem_cons_self .. | apply List.mem_cons_of_mem)) (by rw [N.push_len]; omega) fun K => ?_
          refine sim_outX rfl ⟨(k, (r25, (n.push nr16).push (mkN 11 (Tok.text r25) 0 (Tok.pos r25) []))), Nat.lt_succ_self k⟩ rfl fun F hF => ⟨K, ⟨rfl, rfl, ?_⟩, hF _ (List.mem_cons_self ..)⟩
          simp only [N.push_len]; omega
    · refine sim_doneM (n := n) (by repeat (first | exact List.mem_cons_self .. | apply List.mem_cons_of_mem)) ?_
      exact sim_ret1 (t := tP) _ rfl (fun F hF => hF _ (by repeat (first | exact List.mem_cons_self .. | apply List.mem_cons_of_mem)))
theorem object_m {R : PRec} (hR : PRecM R) (pb : Nat) : Meets PG (PI pb) (callS F_parser_object #[.pointer (some (pAt pb))]) tP (objectS R) NodeF [] := by
  refine c_parser_object (pAt pb) ?_
  unfold t_parser_object objectS
  (repeat (first | with_reducible refine Sim.assoc ?_ | with_reducible refine Sim.pb ?_ | with_reducible refine Sim.ct ?_ | with_reducible refine Sim.cf ?_ | with_reducible refine Sim.ctb ?_ | with_reducible refine Sim.cfb ?_))
  first | refine sim_op (now_m _) (fun _ h => nomatch h) fun r1 b => Sim.prop fun h => ?_ | refine sim_op1 (now_m _) (fun _ h => nomatch h) fun r1 b => Sim.prop fun h => ?_
  subst h
  refine sim_own0 fun r2 Kr2 => ?_
  (repeat (first | with_reducible refine Sim.assoc ?_ | with_reducible refine Sim.pb ?_ | with_reducible refine Sim.ct ?_ | with_reducible refine Sim.cf ?_ | with_reducible refine Sim.ctb ?_ | with_reducible refine Sim.cfb ?_))
  first | refine sim_op (must_m _ _) (fun _ h => nomatch h) fun x b => ?_ | refine sim_op1 (must_m _ _) (fun _ h => nomatch h) fun x b => ?_
  refine sim_joinO (fun n => do mustS k_rc; pure n) r2 [] ?_ fun n K => ?_
  · skip
    refine sim_fuelO (pairsS R) R.fuel _ (fun _ => rfl) rfl (by have := hR.fuel; simp [mkN, N.kids]; omega) (by repeat (first | exact List.mem_cons_self .. | apply List.mem_cons_of_mem)) fun k n K hn => ?_
    (repeat (first | with_reducible refine Sim.assoc ?_ | with_reducible refine Sim.pb ?_ | with_reducible refine Sim.ct ?_ | with_reducible refine Sim.cf ?_ | with_reducible refine Sim.ctb ?_ | with_reducible refine Sim.cfb ?_))
    first | refine sim_op (is_m _ _) (fun _ h => nomatch h) fun r5 b => Sim.prop fun h => ?_ | refine sim_op1 (is_m _ _) (fun _ h => nomatch h) fun r5 b => Sim.prop fun h => ?_
    subst h
    (repeat (first | with_reducible refine Sim.assoc ?_ | with_reducible refine Sim.pb ?_ | with_reducible refine Sim.ct ?_ | with_reducible refine Sim.cf ?_ | with_reducible refine Sim.ctb ?_ | with_reducible refine Sim.cfb ?_))
    (first | refine sim_cond (fun h => ?_) (fun h => ?_) | refine sim_condb (fun h => ?_) (fun h => ?_) | refine sim_condn (fun h => ?_) (fun h => ?_) | refine sim_condnb (fun h => ?_) (fun h => ?_) | refine sim_ite (fun h => ?_) (fun h => ?_)) -- (!r5)
    · skip
      (repeat (first | with_reducible refine Sim.assoc ?_ | with_reducible refine Sim.pb ?_ | with_reducible refine Sim.ct ?_ | with_reducible refine Sim.cf ?_ | with_reducible refine Sim.ctb ?_ | with_reducible refine Sim.cfb ?_))
      first | refine sim_op (now_m _) (fun _ h => nomatch h) fun r6 b => Sim.prop fun h => ?_ | refine sim_op1 (now_m _) (fun _ h => nomatch h) fun r6 b => Sim.prop fun h => ?_
      subst h
      (repeat (first | with_reducible refine Sim.assoc ?_ | with_reducible refine Sim.pb ?_ | with_reducible refine Sim.ct ?_ | with_reducible refine Sim.cf ?_ | with_reducible refine Sim.ctb ?_ | with_reducible refine Sim.cfb ?_))
      first | refine sim_op (name_m _) (fun _ h => nomatch h) fun r7 b => Sim.prop fun h => ?_ | refine sim_op1 (name_m _) (fun _ h => nomatch h) fun r7 b => Sim.prop fun h => ?_
      subst h
      refine sim_made0 fun r8 => ?_
      (repeat (first | with_reducible refine Sim.assoc ?_ | with_reducible refine Sim.pb ?_ | with_reducible refine Sim.ct ?_ | with_reducible refine Sim.cf ?_ | with_reducible refine Sim.ctb ?_ | with_reducible refine Sim.cfb ?_))
      first | refine sim_op (take_m _ _) (fun _ h => nomatch h) fun r9 b => Sim.prop fun h => ?_ | refine sim_op1 (take_m _ _) (fun _ h => nomatch h) fun r9 b => Sim.prop fun h => ?_
      subst h
      refine sim_joinPb NodeF ?_ fun nx11 x11 => ?_
      · skip
        (repeat (first | with_reducible refine Sim.assoc ?_ | with_reducible refine Sim.pb ?_ | with_reducible refine Sim.ct ?_ | with_reducible refine Sim.cf ?_ | with_reducible refine Sim.ctb ?_ | with_reducible refine Sim.cfb ?_))
        (first | refine sim_cond (fun h => ?_) (fun h => ?_) | refine sim_condb (fun h => ?_) (fun h => ?_) | refine sim_condn (fun h => ?_) (fun h => ?_) | refine sim_condnb (fun h => ?_) (fun h => ?_) | refine sim_ite (fun h => ?_) (fun h => ?_)) -- r9
        · skip
          (repeat (first | with_reducible refine Sim.assoc ?_ | with_reducible refine Sim.pb ?_ | with_reducible refine Sim.ct ?_ | with_reducible refine Sim.cf ?_ | with_reducible refine Sim.ctb ?_ | with_reducible refine Sim.cfb ?_))
          first | refine sim_op (hR.expr _) (fun _ h => nomatch h) fun r10 nr10 => ?_ | refine sim_op1 (hR.expr _) (fun _ h => nomatch h) fun r10 nr10 => ?_
          exact sim_outP _ rfl rfl (fun F hF => hF _ (by repeat (first | exact List.mem_cons_self .. | apply List.mem_cons_of_mem)))
        · skip
          exact sim_outP _ rfl rfl (fun F hF => hF _ (by repeat (first | exact List.mem_cons_self .. | apply List.mem_cons_of_mem)))
      · skip
        refine sim_growM (by repeat (first | exact List.mem_cons_self .. | apply List.mem_cons_of_mem)) fun b sl ps K2 hx hb => ?_
        refine sim_nodel [_] [_] rfl (by decide) (by decide) (by kernel_rfl) (fun F hF => (.cons _ _ _ _ (hF (NodeF _ _) (by repeat (first | exact List.mem_cons_self .. | apply List.mem_cons_of_mem))) .nil)) (fun p hp => by first | exact absurd hp List.not_mem_nil | (simp at hp; simp [hp])) fun r15 => ?_
        subst hx
        refine sim_push hb (by repeat (first | exact List.mem_cons_self .. | apply List.mem_cons_of_mem)) (by repeat (first | exact List.mem_cons_self .. | apply List.mem_cons_of_mem)) (by omega) fun K => ?_
        (repeat (first | with_reducible refine Sim.assoc ?_ | with_reducible refine Sim.pb ?_ | with_reducible refine Sim.ct ?_ | with_reducible refine Sim.cf ?_ | with_reducible refine Sim.ctb ?_ | with_reducible refine Sim.cfb ?_))
        first | refine sim_op (take_m _ _) (fun _ h => nomatch h) fun r20 b => Sim.prop fun h => ?_ | refine sim_op1 (take_m _ _) (fun _ h => nomatch h) fun r20 b => Sim.prop fun h => ?_
        subst h
        (repeat (first | with_reducible refine Sim.assoc ?_ | with_reducible refine Sim.pb ?_ | with_reducible refine Sim.ct ?_ | with_reducible refine Sim.cf ?_ | with_reducible refine Sim.ctb ?_ | with_reducible refine Sim.cfb ?_))
        (first | refine sim_cond (fun h => ?_) (fun h => ?_) | refine sim_condb (fun h => ?_) (fun h => ?_) | refine sim_condn (fun h => ?_) (fun h => ?_) | refine sim_condnb (fun h => ?_) (fun h => ?_) | refine sim_ite (fun h => ?_) (fun h => ?_)) -- (!r20)
        · skip
          exact sim_outJO _ rfl rfl (by repeat (first | exact List.mem_cons_self .. | apply List.mem_cons_of_mem))
        · skip
          (first | refine sim_outO0 _ rfl (by simp [N.push_len] at hn ⊢; omega) (by repeat (first | exact List.mem_cons_self .. | apply List.mem_cons_of_mem)) | refine sim_outO1 _ (by decide) rfl (by simp [N.push_len] at hn ⊢; omega) (by repeat (first | exact List.mem_cons_self .. | apply List.mem_cons_of_mem)))
    · skip
      exact sim_outJO _ rfl rfl (by repeat (first | exact List.mem_cons_self .. | apply List.mem_cons_of_mem))
  · skip
    (repeat (first | with_reducible refine Sim.assoc ?_ | with_reducible refine Sim.pb ?_ | with_reducible refine Sim.ct ?_ | with_reducible refine Sim.cf ?_ | with_reducible refine Sim.ctb ?_ | with_reducible refine Sim.cfb ?_))
    first | refine sim_op (must_m _ _) (fun _ h => nomatch h) fun x b => ?_ | refine sim_op1 (must_m _ _) (fun _ h => nomatch h) fun x b => ?_
    refine sim_doneM (n := _) (x := r2) (by repeat (first | exact List.mem_cons_self .. | apply List.mem_cons_of_mem)) ?_
    (repeat (first | with_reducible refine Sim.assoc ?_ | with_reducible refine Sim.pb ?_ | with_reducible refine Sim.ct ?_ | with_reducible refine Sim.cf ?_ | with_reducible refine Sim.ctb ?_ | with_reducible refine Sim.cfb ?_))
    exact sim_ret1 (t := tP) _ rfl (fun F hF => hF _ (by repeat (first | exact List.mem_cons_self .. | apply List.mem_cons_of_mem)))
theorem worded_m {R : PRec} (hR : PRecM R) (pb : Nat) (a1 : Tok) : Meets PG (PI pb) (callS F_parser_worded #[.pointer (some (pAt pb)), .agg #[.int .i64 a1.1, .string a1.2.1, .int .i64 a1.2.2.1, .int .i64 a1.2.2.2.1]]) tP (wordedS R a1) NodeF [] := by
  refine c_parser_worded (pAt pb) a1 ?_
  unfold t_parser_worded wordedS
  refine sim_boxF fun br1 => ?_
  first | refine sim_joinFail ?_ ?_ | refine sim_joinU failS ?_ ?_
  · skip
    refine sim_ldF (b1 := .str) _ (by repeat (first | exact List.mem_cons_self .. | apply List.mem_cons_of_mem)) (by kernel_rfl) rfl rfl ?_
    refine sim_val (words_m _ _) (fun _ h => nomatch h) ?_
    (repeat (first | with_reducible refine Sim.assoc ?_ | with_reducible refine Sim.pb ?_ | with_reducible refine Sim.ct ?_ | with_reducible refine Sim.cf ?_ | with_reducible refine Sim.ctb ?_ | with_reducible refine Sim.cfb ?_))
    (first | refine sim_cond (fun h => ?_) (fun h => ?_) | refine sim_condb (fun h => ?_) (fun h => ?_) | refine sim_condn (fun h => ?_) (fun h => ?_) | refine sim_condnb (fun h => ?_) (fun h => ?_) | refine sim_ite (fun h => ?_) (fun h => ?_)) -- ((r3 : Int) != 0)
    · skip
      (repeat (first | with_reducible refine Sim.assoc ?_ | with_reducible refine Sim.pb ?_ | with_reducible refine Sim.ct ?_ | with_reducible refine Sim.cf ?_ | with_reducible refine Sim.ctb ?_ | with_reducible refine Sim.cfb ?_))
      first | refine sim_op (next_m _) (fun _ h => nomatch h) fun r4 b => Sim.prop fun h => ?_ | refine sim_op1 (next_m _) (fun _ h => nomatch h) fun r4 b => Sim.prop fun h => ?_
      subst h
      refine sim_draw [] (fun _ h => nomatch h) ?_
      refine sim_ldFq (b1 := .str) _ (by repeat (first | exact List.mem_cons_self .. | apply List.mem_cons_of_mem)) (by kernel_rfl) rfl rfl ?_
      refine sim_ldFq (b1 := .int .i64) _ (by repeat (first | exact List.mem_cons_self .. | apply List.mem_cons_of_mem)) (by kernel_rfl) rfl rfl ?_
      refine sim_vall (words_m _ _) (fun _ h => nomatch h) ?_
      refine sim_made0l fun r8 => ?_
      (repeat (first | with_reducible refine Sim.assoc ?_ | with_reducible refine Sim.pb ?_ | with_reducible refine Sim.ct ?_ | with_reducible refine Sim.cf ?_ | with_reducible refine Sim.ctb ?_ | with_reducible refine Sim.cfb ?_))
      exact sim_ret1 (t := tP) _ rfl (fun F hF => hF _ (by repeat (first | exact List.mem_cons_self .. | apply List.mem_cons_of_mem)))
    · skip
      (repeat (first | with_reducible refine Sim.assoc ?_ | with_reducible refine Sim.pb ?_ | with_reducible refine Sim.ct ?_ | with_reducible refine Sim.cf ?_ | with_reducible refine Sim.ctb ?_ | with_reducible refine Sim.cfb ?_))
      first | refine sim_op (take_m _ _) (fun _ h => nomatch h) fun r9 b => Sim.prop fun h => ?_ | refine sim_op1 (take_m _ _) (fun _ h => nomatch h) fun r9 b => Sim.prop fun h => ?_
      subst h
      (repeat (first | with_reducible refine Sim.assoc ?_ | with_reducible refine Sim.pb ?_ | with_reducible refine Sim.ct ?_ | with_reducible refine Sim.cf ?_ | with_reducible refine Sim.ctb ?_ | with_reducible refine Sim.cfb ?_))
      (first | refine sim_cond (fun h => ?_) (fun h => ?_) | refine sim_condb (fun h => ?_) (fun h => ?_) | refine sim_condn (fun h => ?_) (fun h => ?_) | refine sim_condnb (fun h => ?_) (fun h => ?_) | refine sim_ite (fun h => ?_) (fun h => ?_)) -- r9
      · skip
        (repeat (first | with_reducible refine Sim.assoc ?_ | with_reducible refine Sim.pb ?_ | with_reducible refine Sim.ct ?_ | with_reducible refine Sim.cf ?_ | with_reducible refine Sim.ctb ?_ | with_reducible refine Sim.cfb ?_))
        first | refine sim_op (now_m _) (fun _ h => nomatch h) fun r10 b => Sim.prop fun h => ?_ | refine sim_op1 (now_m _) (fun _ h => nomatch h) fun r10 b => Sim.prop fun h => ?_
        subst h
        (repeat (first | with_reducible refine Sim.assoc ?_ | with_reducible refine Sim.pb ?_ | with_reducible refine Sim.ct ?_ | with_reducible refine Sim.cf ?_ | with_reducible refine Sim.ctb ?_ | with_reducible refine Sim.cfb ?_))
        first | refine sim_op (name_m _) (fun _ h => nomatch h) fun r11 b => Sim.prop fun h => ?_ | refine sim_op1 (name_m _) (fun _ h => nomatch h) fun r11 b => Sim.prop fun h => ?_
        subst h
        refine sim_made0 fun r12 => ?_
        refine sim_joinPb NodeF ?_ fun nx18 x18 => ?_
        · skip
          refine sim_fuelN (fun k x => membersS (Tok.pos r10) k x >>= fun x => argsS R >>= fun a => givenS R >>= fun g => pure (mkN 28 kE 0 (Tok.pos a1) [x, a, g])) R.fuel _ (fun _ => rfl) rfl (by repeat (first | exact List.mem_cons_self .. | apply List.mem_cons_of_mem)) fun k n x13 => ?_
          rw [membersS.eq_2]
          (repeat (first | with_reducible refine Sim.assoc ?_ | with_reducible refine Sim.pb ?_ | with_reducible refine Sim.ct ?_ | with_reducible refine Sim.cf ?_ | with_reducible refine Sim.ctb ?_ | with_reducible refine Sim.cfb ?_))
          first | refine sim_op (take_m _ _) (fun _ h => nomatch h) fun r14 b => Sim.prop fun h => ?_ | refine sim_op1 (take_m _ _) (fun _ h => nomatch h) fun r14 b => Sim.prop fun h => ?_
          subst h
          (repeat (first | with_reducible refine Sim.assoc ?_ | with_reducible refine Sim.pb ?_ | with_reducible refine Sim.ct ?_ | with_reducible refine Sim.cf ?_ | with_reducible refine Sim.ctb ?_ | with_reducible refine Sim.cfb ?_))
          (first | refine sim_cond (fun h => ?_) (fun h => ?_) | refine sim_condb (fun h => ?_) (fun h => ?_) | refine sim_condn (fun h => ?_) (fun h => ?_) | refine sim_condnb (fun h => ?_) (fun h => ?_) | refine sim_ite (fun h => ?_) (fun h => ?_)) -- r14
          · skip
            (repeat (first | with_reducible refine Sim.assoc ?_ | with_reducible refine Sim.pb ?_ | with_reducible refine Sim.ct ?_ | with_reducible refine Sim.cf ?_ | with_reducible refine Sim.ctb ?_ | with_reducible refine Sim.cfb ?_))
            first | refine sim_op (name_m _) (fun _ h => nomatch h) fun r15 b => Sim.prop fun h => ?_ | refine sim_op1 (name_m _) (fun _ h => nomatch h) fun r15 b => Sim.prop fun h => ?_
            subst h
            refine sim_node [x13] [n] rfl (by decide) (by decide) (by kernel_rfl) (fun F hF => (.cons _ _ _ _ (hF (NodeF n x13) (by repeat (first | exact List.mem_cons_self .. | apply List.mem_cons_of_mem))) .nil)) fun r17 => ?_
            (first | refine sim_outN0 _ rfl (by repeat (first | exact List.mem_cons_self .. | apply List.mem_cons_of_mem)) | refine sim_outN1 _ (by decide) rfl (by repeat (first | exact List.mem_cons_self .. | apply List.mem_cons_of_mem)))
          · skip
            exact sim_outP _ rfl rfl (fun F hF => hF _ (by repeat (first | exact List.mem_cons_self .. | apply List.mem_cons_of_mem)))
        · skip
          (repeat (first | with_reducible refine Sim.assoc ?_ | with_reducible refine Sim.pb ?_ | with_reducible refine Sim.ct ?_ | with_reducible refine Sim.cf ?_ | with_reducible refine Sim.ctb ?_ | with_reducible refine Sim.cfb ?_))
          first | refine sim_op (args_m hR _) (fun _ h => nomatch h) fun r19 nr19 => ?_ | refine sim_op1 (args_m hR _) (fun _ h => nomatch h) fun r19 nr19 => ?_
          refine sim_draw [] (fun _ h => nomatch h) ?_
          refine sim_ldFq (b1 := .int .i64) _ (by repeat (first | exact List.mem_cons_self .. | apply List.mem_cons_of_mem)) (by kernel_rfl) rfl rfl ?_
          (repeat (first | with_reducible refine Sim.assoc ?_ | with_reducible refine Sim.pb ?_ | with_reducible refine Sim.ct ?_ | with_reducible refine Sim.cf ?_ | with_reducible refine Sim.ctb ?_ | with_reducible refine Sim.cfb ?_))
          first | refine sim_opl (given_m hR _) (fun _ h => nomatch h) fun r21 nr21 => ?_ | refine sim_opl1 (given_m hR _) (fun _ h => nomatch h) fun r21 nr21 => ?_
          refine sim_nodel [x18, r19, r21] [nx18, nr19, nr21] rfl (by decide) (by decide) (by kernel_rfl) (fun F hF => (.cons _ _ _ _ (hF (NodeF nx18 x18) (by repeat (first | exact List.mem_cons_self .. | apply List.mem_cons_of_mem))) (.cons _ _ _ _ (hF (NodeF nr19 r19) (by repeat (first | exact List.mem_cons_self .. | apply List.mem_cons_of_mem))) (.cons _ _ _ _ (hF (NodeF nr21 r21) (by repeat (first | exact List.mem_cons_self .. | apply List.mem_cons_of_mem))) .nil)))) (fun p hp => by first | exact absurd hp List.not_mem_nil | (simp at hp; simp [hp])) fun r23 => ?_
          (repeat (first | with_reducible refine Sim.assoc ?_ | with_reducible refine Sim.pb ?_ | with_reducible refine Sim.ct ?_ | with_reducible refine Sim.cf ?_ | with_reducible refine Sim.ctb ?_ | with_reducible refine Sim.cfb ?_))
          exact sim_ret1 (t := tP) _ rfl (fun F hF => hF _ (by repeat (first | exact List.mem_cons_self .. | apply List.mem_cons_of_mem)))
      · skip
        (repeat (first | with_reducible refine Sim.assoc ?_ | with_reducible refine Sim.pb ?_ | with_reducible refine Sim.ct ?_ | with_reducible refine Sim.cf ?_ | with_reducible refine Sim.ctb ?_ | with_reducible refine Sim.cfb ?_))
        first | refine sim_op (take_m _ _) (fun _ h => nomatch h) fun r24 b => Sim.prop fun h => ?_ | refine sim_op1 (take_m _ _) (fun _ h => nomatch h) fun r24 b => Sim.prop fun h => ?_
        subst h
        (repeat (first | with_reducible refine Sim.assoc ?_ | with_reducible refine Sim.pb ?_ | with_reducible refine Sim.ct ?_ | with_reducible refine Sim.cf ?_ | with_reducible refine Sim.ctb ?_ | with_reducible refine Sim.cfb ?_))
        (first | refine sim_cond (fun h => ?_) (fun h => ?_) | refine sim_condb (fun h => ?_) (fun h => ?_) | refine sim_condn (fun h => ?_) (fun h => ?_) | refine sim_condnb (fun h => ?_) (fun h => ?_) | refine sim_ite (fun h => ?_) (fun h => ?_)) -- r24
        · skip
          (repeat (first | with_reducible refine Sim.assoc ?_ | with_reducible refine Sim.pb ?_ | with_reducible refine Sim.ct ?_ | with_reducible refine Sim.cf ?_ | with_reducible refine Sim.ctb ?_ | with_reducible refine Sim.cfb ?_))
          first | refine sim_op (take_m _ _) (fun _ h => nomatch h) fun r25 b => Sim.prop fun h => ?_ | refine sim_op1 (take_m _ _) (fun _ h => nomatch h) fun r25 b => Sim.prop fun h => ?_
          subst h
          (repeat (first | with_reducible refine Sim.assoc ?_ | with_reducible refine Sim.pb ?_ | with_reducible refine Sim.ct ?_ | with_reducible refine Sim.cf ?_ | with_reducible refine Sim.ctb ?_ | with_reducible refine Sim.cfb ?_))
          (first | refine sim_cond (fun h => ?_) (fun h => ?_) | refine sim_condb (fun h => ?_) (fun h => ?_) | refine sim_condn (fun h => ?_) (fun h => ?_) | refine sim_condnb (fun h => ?_) (fun h => ?_) | refine sim_ite (fun h => ?_) (fun h => ?_)) -- r25
          · skip
            refine sim_draw [] (fun _ h => nomatch h) ?_
            refine sim_ldFq (b1 := .int .i64) _ (by repeat (first | exact List.mem_cons_self .. | apply List.mem_cons_of_mem)) (by kernel_rfl) rfl rfl ?_
            (repeat (first | with_reducible refine Sim.assoc ?_ | with_reducible refine Sim.pb ?_ | with_reducible refine Sim.ct ?_ | with_reducible refine Sim.cf ?_ | with_reducible refine Sim.ctb ?_ | with_reducible refine Sim.cfb ?_))
            first | refine sim_opl (name_m _) (fun _ h => nomatch h) fun r27 b => Sim.prop fun h => ?_ | refine sim_opl1 (name_m _) (fun _ h => nomatch h) fun r27 b => Sim.prop fun h => ?_
            subst h
            refine sim_made0l fun r28 => ?_
            (repeat (first | with_reducible refine Sim.assoc ?_ | with_reducible refine Sim.pb ?_ | with_reducible refine Sim.ct ?_ | with_reducible refine Sim.cf ?_ | with_reducible refine Sim.ctb ?_ | with_reducible refine Sim.cfb ?_))
            exact sim_ret1 (t := tP) _ rfl (fun F hF => hF _ (by repeat (first | exact List.mem_cons_self .. | apply List.mem_cons_of_mem)))
          · skip
            refine sim_draw [] (fun _ h => nomatch h) ?_
            refine sim_ldFq (b1 := .int .i64) _ (by repeat (first | exact List.mem_cons_self .. | apply List.mem_cons_of_mem)) (by kernel_rfl) rfl rfl ?_
            (repeat (first | with_reducible refine Sim.assoc ?_ | with_reducible refine Sim.pb ?_ | with_reducible refine Sim.ct ?_ | with_reducible refine Sim.cf ?_ | with_reducible refine Sim.ctb ?_ | with_reducible refine Sim.cfb ?_))
            first | refine sim_opl (given_m hR _) (fun _ h => nomatch h) fun r30 nr30 => ?_ | refine sim_opl1 (given_m hR _) (fun _ h => nomatch h) fun r30 nr30 => ?_
            refine sim_nodel [r30] [nr30] rfl (by decide) (by decide) (by kernel_rfl) (fun F hF => (.cons _ _ _ _ (hF (NodeF nr30 r30) (by repeat (first | exact List.mem_cons_self .. | apply List.mem_cons_of_mem))) .nil)) (fun p hp => by first | exact absurd hp List.not_mem_nil | (simp at hp; simp [hp])) fun r32 => ?_
            (repeat (first | with_reducible refine Sim.assoc ?_ | with_reducible refine Sim.pb ?_ | with_reducible refine Sim.ct ?_ | with_reducible refine Sim.cf ?_ | with_reducible refine Sim.ctb ?_ | with_reducible refine Sim.cfb ?_))
            exact sim_ret1 (t := tP) _ rfl (fun F hF => hF _ (by repeat (first | exact List.mem_cons_self .. | apply List.mem_cons_of_mem)))
        · skip
          exact sim_outU rfl rfl
  · skip
    exact sim_fails (β1 := Unit) (Rel1 := fun _ _ _ => Fact.prop True) (fail_m _) (fun _ h => nomatch h) (by first | exact errs_fail | exact errs_failb _)
theorem primary_m {R : PRec} (hR : PRecM R) (pb : Nat) : Meets PG (PI pb) (callS F_parser_primary #[.pointer (some (pAt pb))]) tP (primaryS R) NodeF [] := by
  refine c_parser_primary (pAt pb) ?_
  unfold t_parser_primary primaryS
  (repeat (first | with_reducible refine Sim.assoc ?_ | with_reducible refine Sim.pb ?_ | with_reducible refine Sim.ct ?_ | with_reducible refine Sim.cf ?_ | with_reducible refine Sim.ctb ?_ | with_reducible refine Sim.cfb ?_))
  refine sim_op (now_mT _) (fun _ h => nomatch h) fun r1 b => Sim.both (Sim.prop fun hnum => Sim.prop fun h => ?_)
  subst h
  refine sim_varF (c := true) (z := [.int .i64 0, .string kE, .int .i64 0, .int .i64 0]) (by kernel_rfl) (by kernel_rfl) rfl (by simp [Value.cells, Value.oneCell']) fun br2 => ?_
  refine sim_ldF (b1 := .int .i64) _ (by repeat (first | exact List.mem_cons_self .. | apply List.mem_cons_of_mem)) (by kernel_rfl) rfl rfl ?_
  (repeat (first | with_reducible refine Sim.assoc ?_ | with_reducible refine Sim.pb ?_ | with_reducible refine Sim.ct ?_ | with_reducible refine Sim.cf ?_ | with_reducible refine Sim.ctb ?_ | with_reducible refine Sim.cfb ?_))
  (first | refine sim_cond (fun h => ?_) (fun h => ?_) | refine sim_condb (fun h => ?_) (fun h => ?_) | refine sim_condn (fun h => ?_) (fun h => ?_) | refine sim_condnb (fun h => ?_) (fun h => ?_) | refine sim_ite (fun h => ?_) (fun h => ?_)) -- ((r4 : Int) == 3)
  · have hk : Tok.kind r1 = 3 := by simpa [Tok.kind] using h
    (repeat (first | with_reducible refine Sim.assoc ?_ | with_reducible refine Sim.pb ?_ | with_reducible refine Sim.ct ?_ | with_reducible refine Sim.cf ?_ | with_reducible refine Sim.ctb ?_ | with_reducible refine Sim.cfb ?_))
    first | refine sim_op (next_m _) (fun _ h => nomatch h) fun r5 b => Sim.prop fun h => ?_ | refine sim_op1 (next_m _) (fun _ h => nomatch h) fun r5 b => Sim.prop fun h => ?_
    subst h
    refine sim_draw [] (fun _ h => nomatch h) ?_
    refine sim_ldFq (b1 := .str) _ (by repeat (first | exact List.mem_cons_self .. | apply List.mem_cons_of_mem)) (by kernel_rfl) rfl rfl ?_
    refine sim_ldFq (b1 := .int .i64) _ (by repeat (first | exact List.mem_cons_self .. | apply List.mem_cons_of_mem)) (by kernel_rfl) rfl rfl ?_
    refine sim_vall (hR.num _ _ (hnum.1 hk).1 (hnum.1 hk).2) (fun _ h => nomatch h) ?_
    refine sim_made0l fun r9 => ?_
    (repeat (first | with_reducible refine Sim.assoc ?_ | with_reducible refine Sim.pb ?_ | with_reducible refine Sim.ct ?_ | with_reducible refine Sim.cf ?_ | with_reducible refine Sim.ctb ?_ | with_reducible refine Sim.cfb ?_))
    exact sim_ret1 (t := tP) _ rfl (fun F hF => hF _ (by repeat (first | exact List.mem_cons_self .. | apply List.mem_cons_of_mem)))
  · skip
    (repeat (first | with_reducible refine Sim.assoc ?_ | with_reducible refine Sim.pb ?_ | with_reducible refine Sim.ct ?_ | with_reducible refine Sim.cf ?_ | with_reducible refine Sim.ctb ?_ | with_reducible refine Sim.cfb ?_))
    (first | refine sim_cond (fun h => ?_) (fun h => ?_) | refine sim_condb (fun h => ?_) (fun h => ?_) | refine sim_condn (fun h => ?_) (fun h => ?_) | refine sim_condnb (fun h => ?_) (fun h => ?_) | refine sim_ite (fun h => ?_) (fun h => ?_)) -- ((r4 : Int) == 4)
    · skip
      (repeat (first | with_reducible refine Sim.assoc ?_ | with_reducible refine Sim.pb ?_ | with_reducible refine Sim.ct ?_ | with_reducible refine Sim.cf ?_ | with_reducible refine Sim.ctb ?_ | with_reducible refine Sim.cfb ?_))
      first | refine sim_op (next_m _) (fun _ h => nomatch h) fun r10 b => Sim.prop fun h => ?_ | refine sim_op1 (next_m _) (fun _ h => nomatch h) fun r10 b => Sim.prop fun h => ?_
      subst h
      refine sim_ldF (b1 := .str) _ (by repeat (first | exact List.mem_cons_self .. | apply List.mem_cons_of_mem)) (by kernel_rfl) rfl rfl ?_
      refine sim_ldF (b1 := .int .i64) _ (by repeat (first | exact List.mem_cons_self .. | apply List.mem_cons_of_mem)) (by kernel_rfl) rfl rfl ?_
      refine sim_made0 fun r13 => ?_
      (repeat (first | with_reducible refine Sim.assoc ?_ | with_reducible refine Sim.pb ?_ | with_reducible refine Sim.ct ?_ | with_reducible refine Sim.cf ?_ | with_reducible refine Sim.ctb ?_ | with_reducible refine Sim.cfb ?_))
      exact sim_ret1 (t := tP) _ rfl (fun F hF => hF _ (by repeat (first | exact List.mem_cons_self .. | apply List.mem_cons_of_mem)))
    · skip
      first | refine sim_joinBb ?_ fun x14 => ?_ | refine sim_joinBc ?_ fun x14 => ?_
      · skip
        (repeat (first | with_reducible refine Sim.assoc ?_ | with_reducible refine Sim.pb ?_ | with_reducible refine Sim.ct ?_ | with_reducible refine Sim.cf ?_ | with_reducible refine Sim.ctb ?_ | with_reducible refine Sim.cfb ?_))
        (first | refine sim_cond (fun h => ?_) (fun h => ?_) | refine sim_condb (fun h => ?_) (fun h => ?_) | refine sim_condn (fun h => ?_) (fun h => ?_) | refine sim_condnb (fun h => ?_) (fun h => ?_) | refine sim_ite (fun h => ?_) (fun h => ?_)) -- ((r4 : Int) == 5)
        · skip
          exact sim_outB _ rfl (by first | rfl | (simp only [Tok.kind] at *; simp_all))
        · skip
          exact sim_outB _ rfl (by show cond (Tok.kind r1 == 5 || Tok.kind r1 == 6) _ _ = _; rw [show (Tok.kind r1 == 5) = false from h]; rfl)
      · skip
        (repeat (first | with_reducible refine Sim.assoc ?_ | with_reducible refine Sim.pb ?_ | with_reducible refine Sim.ct ?_ | with_reducible refine Sim.cf ?_ | with_reducible refine Sim.ctb ?_ | with_reducible refine Sim.cfb ?_))
        (first | refine sim_cond (fun h => ?_) (fun h => ?_) | refine sim_condb (fun h => ?_) (fun h => ?_) | refine sim_condn (fun h => ?_) (fun h => ?_) | refine sim_condnb (fun h => ?_) (fun h => ?_) | refine sim_ite (fun h => ?_) (fun h => ?_)) -- x14.1
        · skip
          (repeat (first | with_reducible refine Sim.assoc ?_ | with_reducible refine Sim.pb ?_ | with_reducible refine Sim.ct ?_ | with_reducible refine Sim.cf ?_ | with_reducible refine Sim.ctb ?_ | with_reducible refine Sim.cfb ?_))
          first | refine sim_op (template_m hR _) (fun _ h => nomatch h) fun r15 nr15 => ?_ | refine sim_op1 (template_m hR _) (fun _ h => nomatch h) fun r15 nr15 => ?_
          (repeat (first | with_reducible refine Sim.assoc ?_ | with_reducible refine Sim.pb ?_ | with_reducible refine Sim.ct ?_ | with_reducible refine Sim.cf ?_ | with_reducible refine Sim.ctb ?_ | with_reducible refine Sim.cfb ?_))
          exact sim_ret1 (t := tP) _ rfl (fun F hF => hF _ (by repeat (first | exact List.mem_cons_self .. | apply List.mem_cons_of_mem)))
        · skip
          (repeat (first | with_reducible refine Sim.assoc ?_ | with_reducible refine Sim.pb ?_ | with_reducible refine Sim.ct ?_ | with_reducible refine Sim.cf ?_ | with_reducible refine Sim.ctb ?_ | with_reducible refine Sim.cfb ?_))
          (first | refine sim_cond (fun h => ?_) (fun h => ?_) | refine sim_condb (fun h => ?_) (fun h => ?_) | refine sim_condn (fun h => ?_) (fun h => ?_) | refine sim_condnb (fun h => ?_) (fun h => ?_) | refine sim_ite (fun h => ?_) (fun h => ?_)) -- ((r4 : Int) == 1)
          · skip
            (repeat (first | with_reducible refine Sim.assoc ?_ | with_reducible refine Sim.pb ?_ | with_reducible refine Sim.ct ?_ | with_reducible refine Sim.cf ?_ | with_reducible refine Sim.ctb ?_ | with_reducible refine Sim.cfb ?_))
            first | refine sim_op (next_m _) (fun _ h => nomatch h) fun r16 b => Sim.prop fun h => ?_ | refine sim_op1 (next_m _) (fun _ h => nomatch h) fun r16 b => Sim.prop fun h => ?_
            subst h
            refine sim_ldF (b1 := .str) _ (by repeat (first | exact List.mem_cons_self .. | apply List.mem_cons_of_mem)) (by kernel_rfl) rfl rfl ?_
            refine sim_ldF (b1 := .int .i64) _ (by repeat (first | exact List.mem_cons_self .. | apply List.mem_cons_of_mem)) (by kernel_rfl) rfl rfl ?_
            refine sim_made0 fun r19 => ?_
            (repeat (first | with_reducible refine Sim.assoc ?_ | with_reducible refine Sim.pb ?_ | with_reducible refine Sim.ct ?_ | with_reducible refine Sim.cf ?_ | with_reducible refine Sim.ctb ?_ | with_reducible refine Sim.cfb ?_))
            exact sim_ret1 (t := tP) _ rfl (fun F hF => hF _ (by repeat (first | exact List.mem_cons_self .. | apply List.mem_cons_of_mem)))
          · skip
            (repeat (first | with_reducible refine Sim.assoc ?_ | with_reducible refine Sim.pb ?_ | with_reducible refine Sim.ct ?_ | with_reducible refine Sim.cf ?_ | with_reducible refine Sim.ctb ?_ | with_reducible refine Sim.cfb ?_))
            (first | refine sim_cond (fun h => ?_) (fun h => ?_) | refine sim_condb (fun h => ?_) (fun h => ?_) | refine sim_condn (fun h => ?_) (fun h => ?_) | refine sim_condnb (fun h => ?_) (fun h => ?_) | refine sim_ite (fun h => ?_) (fun h => ?_)) -- ((r4 : Int) == 2)
            · skip
              refine sim_ldFA (bs := bsTok) (_, _, _, _, ()) (by repeat (first | exact List.mem_cons_self .. | apply List.mem_cons_of_mem)) (by kernel_rfl) rfl rfl ?_
              (repeat (first | with_reducible refine Sim.assoc ?_ | with_reducible refine Sim.pb ?_ | with_reducible refine Sim.ct ?_ | with_reducible refine Sim.cf ?_ | with_reducible refine Sim.ctb ?_ | with_reducible refine Sim.cfb ?_))
              first | refine sim_op (worded_m hR _ _) (fun _ h => nomatch h) fun r21 nr21 => ?_ | refine sim_op1 (worded_m hR _ _) (fun _ h => nomatch h) fun r21 nr21 => ?_
              (repeat (first | with_reducible refine Sim.assoc ?_ | with_reducible refine Sim.pb ?_ | with_reducible refine Sim.ct ?_ | with_reducible refine Sim.cf ?_ | with_reducible refine Sim.ctb ?_ | with_reducible refine Sim.cfb ?_))
              exact sim_ret1 (t := tP) _ rfl (fun F hF => hF _ (by repeat (first | exact List.mem_cons_self .. | apply List.mem_cons_of_mem)))
            · skip
              (repeat (first | with_reducible refine Sim.assoc ?_ | with_reducible refine Sim.pb ?_ | with_reducible refine Sim.ct ?_ | with_reducible refine Sim.cf ?_ | with_reducible refine Sim.ctb ?_ | with_reducible refine Sim.cfb ?_))
              first | refine sim_op (take_m _ _) (fun _ h => nomatch h) fun r22 b => Sim.prop fun h => ?_ | refine sim_op1 (take_m _ _) (fun _ h => nomatch h) fun r22 b => Sim.prop fun h => ?_
              subst h
              (repeat (first | with_reducible refine Sim.assoc ?_ | with_reducible refine Sim.pb ?_ | with_reducible refine Sim.ct ?_ | with_reducible refine Sim.cf ?_ | with_reducible refine Sim.ctb ?_ | with_reducible refine Sim.cfb ?_))
              (first | refine sim_cond (fun h => ?_) (fun h => ?_) | refine sim_condb (fun h => ?_) (fun h => ?_) | refine sim_condn (fun h => ?_) (fun h => ?_) | refine sim_condnb (fun h => ?_) (fun h => ?_) | refine sim_ite (fun h => ?_) (fun h => ?_)) -- r22
              · skip
                (repeat (first | with_reducible refine Sim.assoc ?_ | with_reducible refine Sim.pb ?_ | with_reducible refine Sim.ct ?_ | with_reducible refine Sim.cf ?_ | with_reducible refine Sim.ctb ?_ | with_reducible refine Sim.cfb ?_))
                first | refine sim_op (hR.expr _) (fun _ h => nomatch h) fun r23 nr23 => ?_ | refine sim_op1 (hR.expr _) (fun _ h => nomatch h) fun r23 nr23 => ?_
                (repeat (first | with_reducible refine Sim.assoc ?_ | with_reducible refine Sim.pb ?_ | with_reducible refine Sim.ct ?_ | with_reducible refine Sim.cf ?_ | with_reducible refine Sim.ctb ?_ | with_reducible refine Sim.cfb ?_))
                first | refine sim_op (must_m _ _) (fun _ h => nomatch h) fun x b => ?_ | refine sim_op1 (must_m _ _) (fun _ h => nomatch h) fun x b => ?_
                (repeat (first | with_reducible refine Sim.assoc ?_ | with_reducible refine Sim.pb ?_ | with_reducible refine Sim.ct ?_ | with_reducible refine Sim.cf ?_ | with_reducible refine Sim.ctb ?_ | with_reducible refine Sim.cfb ?_))
                exact sim_ret1 (t := tP) _ rfl (fun F hF => hF _ (by repeat (first | exact List.mem_cons_self .. | apply List.mem_cons_of_mem)))
              · skip
                (repeat (first | with_reducible refine Sim.assoc ?_ | with_reducible refine Sim.pb ?_ | with_reducible refine Sim.ct ?_ | with_reducible refine Sim.cf ?_ | with_reducible refine Sim.ctb ?_ | with_reducible refine Sim.cfb ?_))
                first | refine sim_op (take_m _ _) (fun _ h => nomatch h) fun r25 b => Sim.prop fun h => ?_ | refine sim_op1 (take_m _ _) (fun _ h => nomatch h) fun r25 b => Sim.prop fun h => ?_
                subst h
                (repeat (first | with_reducible refine Sim.assoc ?_ | with_reducible refine Sim.pb ?_ | with_reducible refine Sim.ct ?_ | with_reducible refine Sim.cf ?_ | with_reducible refine Sim.ctb ?_ | with_reducible refine Sim.cfb ?_))
                (first | refine sim_cond (fun h => ?_) (fun h => ?_) | refine sim_condb (fun h => ?_) (fun h => ?_) | refine sim_condn (fun h => ?_) (fun h => ?_) | refine sim_condnb (fun h => ?_) (fun h => ?_) | refine sim_ite (fun h => ?_) (fun h => ?_)) -- r25
                · skip
                  refine sim_ldF (b1 := .int .i64) _ (by repeat (first | exact List.mem_cons_self .. | apply List.mem_cons_of_mem)) (by kernel_rfl) rfl rfl ?_
                  refine sim_own0 fun r27 Kr27 => ?_
                  (repeat (first | with_reducible refine Sim.assoc ?_ | with_reducible refine Sim.pb ?_ | with_reducible refine Sim.ct ?_ | with_reducible refine Sim.cf ?_ | with_reducible refine Sim.ctb ?_ | with_reducible refine Sim.cfb ?_))
                  first | refine sim_op (is_m _ _) (fun _ h => nomatch h) fun r28 b => Sim.prop fun h => ?_ | refine sim_op1 (is_m _ _) (fun _ h => nomatch h) fun r28 b => Sim.prop fun h => ?_
                  subst h
                  (repeat (first | with_reducible refine Sim.assoc ?_ | with_reducible refine Sim.pb ?_ | with_reducible refine Sim.ct ?_ | with_reducible refine Sim.cf ?_ | with_reducible refine Sim.ctb ?_ | with_reducible refine Sim.cfb ?_))
                  (first | refine sim_cond (fun h => ?_) (fun h => ?_) | refine sim_condb (fun h => ?_) (fun h => ?_) | refine sim_condn (fun h => ?_) (fun h => ?_) | refine sim_condnb (fun h => ?_) (fun h => ?_) | refine sim_ite (fun h => ?_) (fun h => ?_)) -- (!r28)
                  · skip
                    (repeat (first | with_reducible refine Sim.assoc ?_ | with_reducible refine Sim.pb ?_ | with_reducible refine Sim.ct ?_ | with_reducible refine Sim.cf ?_ | with_reducible refine Sim.ctb ?_ | with_reducible refine Sim.cfb ?_))
                    first | refine sim_opO (list_m pb _ _ R.fuel (Nat.le_trans hR.fuel (by decide)) (MeetsO.congr (run_callv1 _ _) (hR.expr _))) (fun _ h => nomatch h) fun r29 nr29 Kr29 => ?_ | refine sim_op1O (list_m pb _ _ R.fuel (Nat.le_trans hR.fuel (by decide)) (MeetsO.congr (run_callv1 _ _) (hR.expr _))) (fun _ h => nomatch h) fun r29 nr29 Kr29 => ?_
                    refine sim_doneM (by repeat (first | exact List.mem_cons_self .. | apply List.mem_cons_of_mem)) ?_
                    refine sim_takeKids (n := mkN 19 kE 0 (Tok.pos r1) []) (by repeat (first | exact List.mem_cons_self .. | apply List.mem_cons_of_mem)) (by repeat (first | exact List.mem_cons_self .. | apply List.mem_cons_of_mem)) ?_
                    (repeat (first | with_reducible refine Sim.assoc ?_ | with_reducible refine Sim.pb ?_ | with_reducible refine Sim.ct ?_ | with_reducible refine Sim.cf ?_ | with_reducible refine Sim.ctb ?_ | with_reducible refine Sim.cfb ?_))
                    first | refine sim_op (must_m _ _) (fun _ h => nomatch h) fun x b => ?_ | refine sim_op1 (must_m _ _) (fun _ h => nomatch h) fun x b => ?_
                    skip
                    (repeat (first | with_reducible refine Sim.assoc ?_ | with_reducible refine Sim.pb ?_ | with_reducible refine Sim.ct ?_ | with_reducible refine Sim.cf ?_ | with_reducible refine Sim.ctb ?_ | with_reducible refine Sim.cfb ?_))
                    exact sim_ret1 (t := tP) _ rfl (fun F hF => hF _ (by repeat (first | exact List.mem_cons_self .. | apply List.mem_cons_of_mem)))
                  · skip
                    (repeat (first | with_reducible refine Sim.assoc ?_ | with_reducible refine Sim.pb ?_ | with_reducible refine Sim.ct ?_ | with_reducible refine Sim.cf ?_ | with_reducible refine Sim.ctb ?_ | with_reducible refine Sim.cfb ?_))
                    first | refine sim_op (must_m _ _) (fun _ h => nomatch h) fun x b => ?_ | refine sim_op1 (must_m _ _) (fun _ h => nomatch h) fun x b => ?_
                    refine sim_doneM (n := _) (x := r27) (by repeat (first | exact List.mem_cons_self .. | apply List.mem_cons_of_mem)) ?_
                    (repeat (first | with_reducible refine Sim.assoc ?_ | with_reducible refine Sim.pb ?_ | with_reducible refine Sim.ct ?_ | with_reducible refine Sim.cf ?_ | with_reducible refine Sim.ctb ?_ | with_reducible refine Sim.cfb ?_))
                    exact sim_ret1 (t := tP) _ rfl (fun F hF => hF _ (by repeat (first | exact List.mem_cons_self .. | apply List.mem_cons_of_mem)))
                · skip
                  (repeat (first | with_reducible refine Sim.assoc ?_ | with_reducible refine Sim.pb ?_ | with_reducible refine Sim.ct ?_ | with_reducible refine Sim.cf ?_ | with_reducible refine Sim.ctb ?_ | with_reducible refine Sim.cfb ?_))
                  first | refine sim_op (object_m hR _) (fun _ h => nomatch h) fun r36 nr36 => ?_ | refine sim_op1 (object_m hR _) (fun _ h => nomatch h) fun r36 nr36 => ?_
                  (repeat (first | with_reducible refine Sim.assoc ?_ | with_reducible refine Sim.pb ?_ | with_reducible refine Sim.ct ?_ | with_reducible refine Sim.cf ?_ | with_reducible refine Sim.ctb ?_ | with_reducible refine Sim.cfb ?_))
                  exact sim_ret1 (t := tP) _ rfl (fun F hF => hF _ (by repeat (first | exact List.mem_cons_self .. | apply List.mem_cons_of_mem)))
theorem postfix_m {R : PRec} (hR : PRecM R) (pb : Nat) : Meets PG (PI pb) (callS F_parser_postfix #[.pointer (some (pAt pb))]) tP (postfixS R) NodeF [] := by
  refine c_parser_postfix (pAt pb) ?_
  unfold t_parser_postfix postfixS
  (repeat (first | with_reducible refine Sim.assoc ?_ | with_reducible refine Sim.pb ?_ | with_reducible refine Sim.ct ?_ | with_reducible refine Sim.cf ?_ | with_reducible refine Sim.ctb ?_ | with_reducible refine Sim.cfb ?_))
  first | refine sim_op (now_m _) (fun _ h => nomatch h) fun r1 b => Sim.prop fun h => ?_ | refine sim_op1 (now_m _) (fun _ h => nomatch h) fun r1 b => Sim.prop fun h => ?_
  subst h
  (repeat (first | with_reducible refine Sim.assoc ?_ | with_reducible refine Sim.pb ?_ | with_reducible refine Sim.ct ?_ | with_reducible refine Sim.cf ?_ | with_reducible refine Sim.ctb ?_ | with_reducible refine Sim.cfb ?_))
  first | refine sim_op (primary_m hR _) (fun _ h => nomatch h) fun r2 nr2 => ?_ | refine sim_op1 (primary_m hR _) (fun _ h => nomatch h) fun r2 nr2 => ?_
  refine sim_fuelN (partsS R (Tok.pos r1)) R.fuel _ (fun _ => rfl) rfl (by repeat (first | exact List.mem_cons_self .. | apply List.mem_cons_of_mem)) fun k n x3 => ?_
  (repeat (first | with_reducible refine Sim.assoc ?_ | with_reducible refine Sim.pb ?_ | with_reducible refine Sim.ct ?_ | with_reducible refine Sim.cf ?_ | with_reducible refine Sim.ctb ?_ | with_reducible refine Sim.cfb ?_))
  first | refine sim_op (take_m _ _) (fun _ h => nomatch h) fun r4 b => Sim.prop fun h => ?_ | refine sim_op1 (take_m _ _) (fun _ h => nomatch h) fun r4 b => Sim.prop fun h => ?_
  subst h
  (repeat (first | with_reducible refine Sim.assoc ?_ | with_reducible refine Sim.pb ?_ | with_reducible refine Sim.ct ?_ | with_reducible refine Sim.cf ?_ | with_reducible refine Sim.ctb ?_ | with_reducible refine Sim.cfb ?_))
  (first | refine sim_cond (fun h => ?_) (fun h => ?_) | refine sim_condb (fun h => ?_) (fun h => ?_) | refine sim_condn (fun h => ?_) (fun h => ?_) | refine sim_condnb (fun h => ?_) (fun h => ?_) | refine sim_ite (fun h => ?_) (fun h => ?_)) -- r4
  · skip
    (repeat (first | with_reducible refine Sim.assoc ?_ | with_reducible refine Sim.pb ?_ | with_reducible refine Sim.ct ?_ | with_reducible refine Sim.cf ?_ | with_reducible refine Sim.ctb ?_ | with_reducible refine Sim.cfb ?_))
    first | refine sim_op (name_m _) (fun _ h => nomatch h) fun r5 b => Sim.prop fun h => ?_ | refine sim_op1 (name_m _) (fun _ h => nomatch h) fun r5 b => Sim.prop fun h => ?_
    subst h
    refine sim_node [x3] [n] rfl (by decide) (by decide) (by kernel_rfl) (fun F hF => (.cons _ _ _ _ (hF (NodeF n x3) (by repeat (first | exact List.mem_cons_self .. | apply List.mem_cons_of_mem))) .nil)) fun r7 => ?_
    (first | refine sim_outN0 _ rfl (by repeat (first | exact List.mem_cons_self .. | apply List.mem_cons_of_mem)) | refine sim_outN1 _ (by decide) rfl (by repeat (first | exact List.mem_cons_self .. | apply List.mem_cons_of_mem)))
  · skip
    (repeat (first | with_reducible refine Sim.assoc ?_ | with_reducible refine Sim.pb ?_ | with_reducible refine Sim.ct ?_ | with_reducible refine Sim.cf ?_ | with_reducible refine Sim.ctb ?_ | with_reducible refine Sim.cfb ?_))
    first | refine sim_op (take_m _ _) (fun _ h => nomatch h) fun r8 b => Sim.prop fun h => ?_ | refine sim_op1 (take_m _ _) (fun _ h => nomatch h) fun r8 b => Sim.prop fun h => ?_
    subst h
    (repeat (first | with_reducible refine Sim.assoc ?_ | with_reducible refine Sim.pb ?_ | with_reducible refine Sim.ct ?_ | with_reducible refine Sim.cf ?_ | with_reducible refine Sim.ctb ?_ | with_reducible refine Sim.cfb ?_))
    (first | refine sim_cond (fun h => ?_) (fun h => ?_) | refine sim_condb (fun h => ?_) (fun h => ?_) | refine sim_condn (fun h => ?_) (fun h => ?_) | refine sim_condnb (fun h => ?_) (fun h => ?_) | refine sim_ite (fun h => ?_) (fun h => ?_)) -- r8
    · skip
      (repeat (first | with_reducible refine Sim.assoc ?_ | with_reducible refine Sim.pb ?_ | with_reducible refine Sim.ct ?_ | with_reducible refine Sim.cf ?_ | with_reducible refine Sim.ctb ?_ | with_reducible refine Sim.cfb ?_))
      first | refine sim_op (hR.expr _) (fun _ h => nomatch h) fun r9 nr9 => ?_ | refine sim_op1 (hR.expr _) (fun _ h => nomatch h) fun r9 nr9 => ?_
      (repeat (first | with_reducible refine Sim.assoc ?_ | with_reducible refine Sim.pb ?_ | with_reducible refine Sim.ct ?_ | with_reducible refine Sim.cf ?_ | with_reducible refine Sim.ctb ?_ | with_reducible refine Sim.cfb ?_))
      first | refine sim_op (must_m _ _) (fun _ h => nomatch h) fun x b => ?_ | refine sim_op1 (must_m _ _) (fun _ h => nomatch h) fun x b => ?_
      refine sim_node [x3, r9] [n, nr9] rfl (by decide) (by decide) (by kernel_rfl) (fun F hF => (.cons _ _ _ _ (hF (NodeF n x3) (by repeat (first | exact List.mem_cons_self .. | apply List.mem_cons_of_mem))) (.cons _ _ _ _ (hF (NodeF nr9 r9) (by repeat (first | exact List.mem_cons_self .. | apply List.mem_cons_of_mem))) .nil))) fun r12 => ?_
      (first | refine sim_outN0 _ rfl (by repeat (first | exact List.mem_cons_self .. | apply List.mem_cons_of_mem)) | refine sim_outN1 _ (by decide) rfl (by repeat (first | exact List.mem_cons_self .. | apply List.mem_cons_of_mem)))
    · skip
      (repeat (first | with_reducible refine Sim.assoc ?_ | with_reducible refine Sim.pb ?_ | with_reducible refine Sim.ct ?_ | with_reducible refine Sim.cf ?_ | with_reducible refine Sim.ctb ?_ | with_reducible refine Sim.cfb ?_))
      first | refine sim_op (is_m _ _) (fun _ h => nomatch h) fun r13 b => Sim.prop fun h => ?_ | refine sim_op1 (is_m _ _) (fun _ h => nomatch h) fun r13 b => Sim.prop fun h => ?_
      subst h
      first | refine sim_joinBb ?_ fun x16 => ?_ | refine sim_joinBc ?_ fun x16 => ?_
      · skip
        (repeat (first | with_reducible refine Sim.assoc ?_ | with_reducible refine Sim.pb ?_ | with_reducible refine Sim.ct ?_ | with_reducible refine Sim.cf ?_ | with_reducible refine Sim.ctb ?_ | with_reducible refine Sim.cfb ?_))
        (first | refine sim_cond (fun h => ?_) (fun h => ?_) | refine sim_condb (fun h => ?_) (fun h => ?_) | refine sim_condn (fun h => ?_) (fun h => ?_) | refine sim_condnb (fun h => ?_) (fun h => ?_) | refine sim_ite (fun h => ?_) (fun h => ?_)) -- r13
        · skip
          exact sim_outB _ rfl (by first | rfl | (simp only [Tok.kind] at *; simp_all))
        · skip
          (repeat (first | with_reducible refine Sim.assoc ?_ | with_reducible refine Sim.pb ?_ | with_reducible refine Sim.ct ?_ | with_reducible refine Sim.cf ?_ | with_reducible refine Sim.ctb ?_ | with_reducible refine Sim.cfb ?_))
          first | refine sim_op (is_m _ _) (fun _ h => nomatch h) fun r14 b => Sim.prop fun h => ?_ | refine sim_op1 (is_m _ _) (fun _ h => nomatch h) fun r14 b => Sim.prop fun h => ?_
          subst h
          (repeat (first | with_reducible refine Sim.assoc ?_ | with_reducible refine Sim.pb ?_ | with_reducible refine Sim.ct ?_ | with_reducible refine Sim.cf ?_ | with_reducible refine Sim.ctb ?_ | with_reducible refine Sim.cfb ?_))
          (first | refine sim_cond (fun h => ?_) (fun h => ?_) | refine sim_condb (fun h => ?_) (fun h => ?_) | refine sim_condn (fun h => ?_) (fun h => ?_) | refine sim_condnb (fun h => ?_) (fun h => ?_) | refine sim_ite (fun h => ?_) (fun h => ?_)) -- r14
          · skip
            (repeat (first | with_reducible refine Sim.assoc ?_ | with_reducible refine Sim.pb ?_ | with_reducible refine Sim.ct ?_ | with_reducible refine Sim.cf ?_ | with_reducible refine Sim.ctb ?_ | with_reducible refine Sim.cfb ?_))
            first | refine sim_op (calls_m hR _) (fun _ h => nomatch h) fun r15 b => Sim.prop fun h => ?_ | refine sim_op1 (calls_m hR _) (fun _ h => nomatch h) fun r15 b => Sim.prop fun h => ?_
            subst h
            exact sim_outB _ rfl (by first | rfl | (simp only [Tok.kind] at *; simp_all))
          · skip
            exact sim_outB _ rfl (by first | rfl | (simp only [Tok.kind] at *; simp_all))
      · skip
        (repeat (first | with_reducible refine Sim.assoc ?_ | with_reducible refine Sim.pb ?_ | with_reducible refine Sim.ct ?_ | with_reducible refine Sim.cf ?_ | with_reducible refine Sim.ctb ?_ | with_reducible refine Sim.cfb ?_))
        (first | refine sim_cond (fun h => ?_) (fun h => ?_) | refine sim_condb (fun h => ?_) (fun h => ?_) | refine sim_condn (fun h => ?_) (fun h => ?_) | refine sim_condnb (fun h => ?_) (fun h => ?_) | refine sim_ite (fun h => ?_) (fun h => ?_)) -- x16.1
        · skip
          (repeat (first | with_reducible refine Sim.assoc ?_ | with_reducible refine Sim.pb ?_ | with_reducible refine Sim.ct ?_ | with_reducible refine Sim.cf ?_ | with_reducible refine Sim.ctb ?_ | with_reducible refine Sim.cfb ?_))
          first | refine sim_op (args_m hR _) (fun _ h => nomatch h) fun r17 nr17 => ?_ | refine sim_op1 (args_m hR _) (fun _ h => nomatch h) fun r17 nr17 => ?_
          (repeat (first | with_reducible refine Sim.assoc ?_ | with_reducible refine Sim.pb ?_ | with_reducible refine Sim.ct ?_ | with_reducible refine Sim.cf ?_ | with_reducible refine Sim.ctb ?_ | with_reducible refine Sim.cfb ?_))
          first | refine sim_op (given_m hR _) (fun _ h => nomatch h) fun r18 nr18 => ?_ | refine sim_op1 (given_m hR _) (fun _ h => nomatch h) fun r18 nr18 => ?_
          refine sim_node [x3, r17, r18] [n, nr17, nr18] rfl (by decide) (by decide) (by kernel_rfl) (fun F hF => (.cons _ _ _ _ (hF (NodeF n x3) (by repeat (first | exact List.mem_cons_self .. | apply List.mem_cons_of_mem))) (.cons _ _ _ _ (hF (NodeF nr17 r17) (by repeat (first | exact List.mem_cons_self .. | apply List.mem_cons_of_mem))) (.cons _ _ _ _ (hF (NodeF nr18 r18) (by repeat (first | exact List.mem_cons_self .. | apply List.mem_cons_of_mem))) .nil)))) fun r20 => ?_
          (first | refine sim_outN0 _ rfl (by repeat (first | exact List.mem_cons_self .. | apply List.mem_cons_of_mem)) | refine sim_outN1 _ (by decide) rfl (by repeat (first | exact List.mem_cons_self .. | apply List.mem_cons_of_mem)))
        · skip
          (repeat (first | with_reducible refine Sim.assoc ?_ | with_reducible refine Sim.pb ?_ | with_reducible refine Sim.ct ?_ | with_reducible refine Sim.cf ?_ | with_reducible refine Sim.ctb ?_ | with_reducible refine Sim.cfb ?_))
          first | refine sim_op (take_m _ _) (fun _ h => nomatch h) fun r21 b => Sim.prop fun h => ?_ | refine sim_op1 (take_m _ _) (fun _ h => nomatch h) fun r21 b => Sim.prop fun h => ?_
          subst h
          (repeat (first | with_reducible refine Sim.assoc ?_ | with_reducible refine Sim.pb ?_ | with_reducible refine Sim.ct ?_ | with_reducible refine Sim.cf ?_ | with_reducible refine Sim.ctb ?_ | with_reducible refine Sim.cfb ?_))
          (first | refine sim_cond (fun h => ?_) (fun h => ?_) | refine sim_condb (fun h => ?_) (fun h => ?_) | refine sim_condn (fun h => ?_) (fun h => ?_) | refine sim_condnb (fun h => ?_) (fun h => ?_) | refine sim_ite (fun h => ?_) (fun h => ?_)) -- r21
          · skip
            refine sim_node [x3] [n] rfl (by decide) (by decide) (by kernel_rfl) (fun F hF => (.cons _ _ _ _ (hF (NodeF n x3) (by repeat (first | exact List.mem_cons_self .. | apply List.mem_cons_of_mem))) .nil)) fun r23 => ?_
            (first | refine sim_outN0 _ rfl (by repeat (first | exact List.mem_cons_self .. | apply List.mem_cons_of_mem)) | refine sim_outN1 _ (by decide) rfl (by repeat (first | exact List.mem_cons_self .. | apply List.mem_cons_of_mem)))
          · skip
            (repeat (first | with_reducible refine Sim.assoc ?_ | with_reducible refine Sim.pb ?_ | with_reducible refine Sim.ct ?_ | with_reducible refine Sim.cf ?_ | with_reducible refine Sim.ctb ?_ | with_reducible refine Sim.cfb ?_))
            exact sim_ret1 (t := tP) _ rfl (fun F hF => hF _ (by repeat (first | exact List.mem_cons_self .. | apply List.mem_cons_of_mem)))
theorem unary_m {R : PRec} (hR : PRecM R) (pb : Nat) : Meets PG (PI pb) (callS F_parser_unary #[.pointer (some (pAt pb))]) tP (unaryS R) NodeF [] := by
  refine c_parser_unary (pAt pb) ?_
  unfold t_parser_unary unaryS
  (repeat (first | with_reducible refine Sim.assoc ?_ | with_reducible refine Sim.pb ?_ | with_reducible refine Sim.ct ?_ | with_reducible refine Sim.cf ?_ | with_reducible refine Sim.ctb ?_ | with_reducible refine Sim.cfb ?_))
  first | refine sim_op (now_m _) (fun _ h => nomatch h) fun r1 b => Sim.prop fun h => ?_ | refine sim_op1 (now_m _) (fun _ h => nomatch h) fun r1 b => Sim.prop fun h => ?_
  subst h
  refine sim_varF (c := true) (z := [.int .i64 0, .string kE, .int .i64 0, .int .i64 0]) (by kernel_rfl) (by kernel_rfl) rfl (by simp [Value.cells, Value.oneCell']) fun br2 => ?_
  (repeat (first | with_reducible refine Sim.assoc ?_ | with_reducible refine Sim.pb ?_ | with_reducible refine Sim.ct ?_ | with_reducible refine Sim.cf ?_ | with_reducible refine Sim.ctb ?_ | with_reducible refine Sim.cfb ?_))
  first | refine sim_op (take_m _ _) (fun _ h => nomatch h) fun r4 b => Sim.prop fun h => ?_ | refine sim_op1 (take_m _ _) (fun _ h => nomatch h) fun r4 b => Sim.prop fun h => ?_
  subst h
  first | refine sim_joinBb ?_ fun x8 => ?_ | refine sim_joinBc ?_ fun x8 => ?_
  · skip
    (repeat (first | with_reducible refine Sim.assoc ?_ | with_reducible refine Sim.pb ?_ | with_reducible refine Sim.ct ?_ | with_reducible refine Sim.cf ?_ | with_reducible refine Sim.ctb ?_ | with_reducible refine Sim.cfb ?_))
    (first | refine sim_cond (fun h => ?_) (fun h => ?_) | refine sim_condb (fun h => ?_) (fun h => ?_) | refine sim_condn (fun h => ?_) (fun h => ?_) | refine sim_condnb (fun h => ?_) (fun h => ?_) | refine sim_ite (fun h => ?_) (fun h => ?_)) -- r4
    · skip
      exact sim_outB _ rfl (by first | rfl | (simp only [Tok.kind] at *; simp_all))
    · skip
      (repeat (first | with_reducible refine Sim.assoc ?_ | with_reducible refine Sim.pb ?_ | with_reducible refine Sim.ct ?_ | with_reducible refine Sim.cf ?_ | with_reducible refine Sim.ctb ?_ | with_reducible refine Sim.cfb ?_))
      first | refine sim_op (take_m _ _) (fun _ h => nomatch h) fun r5 b => Sim.prop fun h => ?_ | refine sim_op1 (take_m _ _) (fun _ h => nomatch h) fun r5 b => Sim.prop fun h => ?_
      subst h
      (repeat (first | with_reducible refine Sim.assoc ?_ | with_reducible refine Sim.pb ?_ | with_reducible refine Sim.ct ?_ | with_reducible refine Sim.cf ?_ | with_reducible refine Sim.ctb ?_ | with_reducible refine Sim.cfb ?_))
      (first | refine sim_cond (fun h => ?_) (fun h => ?_) | refine sim_condb (fun h => ?_) (fun h => ?_) | refine sim_condn (fun h => ?_) (fun h => ?_) | refine sim_condnb (fun h => ?_) (fun h => ?_) | refine sim_ite (fun h => ?_) (fun h => ?_)) -- r5
      · skip
        exact sim_outB _ rfl (by first | rfl | (simp only [Tok.kind] at *; simp_all))
      · skip
        (repeat (first | with_reducible refine Sim.assoc ?_ | with_reducible refine Sim.pb ?_ | with_reducible refine Sim.ct ?_ | with_reducible refine Sim.cf ?_ | with_reducible refine Sim.ctb ?_ | with_reducible refine Sim.cfb ?_))
        first | refine sim_op (take_m _ _) (fun _ h => nomatch h) fun r6 b => Sim.prop fun h => ?_ | refine sim_op1 (take_m _ _) (fun _ h => nomatch h) fun r6 b => Sim.prop fun h => ?_
        subst h
        (repeat (first | with_reducible refine Sim.assoc ?_ | with_reducible refine Sim.pb ?_ | with_reducible refine Sim.ct ?_ | with_reducible refine Sim.cf ?_ | with_reducible refine Sim.ctb ?_ | with_reducible refine Sim.cfb ?_))
        (first | refine sim_cond (fun h => ?_) (fun h => ?_) | refine sim_condb (fun h => ?_) (fun h => ?_) | refine sim_condn (fun h => ?_) (fun h => ?_) | refine sim_condnb (fun h => ?_) (fun h => ?_) | refine sim_ite (fun h => ?_) (fun h => ?_)) -- r6
        · skip
          exact sim_outB _ rfl (by first | rfl | (simp only [Tok.kind] at *; simp_all))
        · skip
          (repeat (first | with_reducible refine Sim.assoc ?_ | with_reducible refine Sim.pb ?_ | with_reducible refine Sim.ct ?_ | with_reducible refine Sim.cf ?_ | with_reducible refine Sim.ctb ?_ | with_reducible refine Sim.cfb ?_))
          first | refine sim_op (take_m _ _) (fun _ h => nomatch h) fun r7 b => Sim.prop fun h => ?_ | refine sim_op1 (take_m _ _) (fun _ h => nomatch h) fun r7 b => Sim.prop fun h => ?_
          subst h
          exact sim_outB _ rfl (by first | rfl | (simp only [Tok.kind] at *; simp_all))
  · skip
    (repeat (first | with_reducible refine Sim.assoc ?_ | with_reducible refine Sim.pb ?_ | with_reducible refine Sim.ct ?_ | with_reducible refine Sim.cf ?_ | with_reducible refine Sim.ctb ?_ | with_reducible refine Sim.cfb ?_))
    (first | refine sim_cond (fun h => ?_) (fun h => ?_) | refine sim_condb (fun h => ?_) (fun h => ?_) | refine sim_condn (fun h => ?_) (fun h => ?_) | refine sim_condnb (fun h => ?_) (fun h => ?_) | refine sim_ite (fun h => ?_) (fun h => ?_)) -- x8.1
    · skip
      refine sim_draw [] (fun _ h => nomatch h) ?_
      refine sim_ldFq (b1 := .str) _ (by repeat (first | exact List.mem_cons_self .. | apply List.mem_cons_of_mem)) (by kernel_rfl) rfl rfl ?_
      refine sim_ldFq (b1 := .int .i64) _ (by repeat (first | exact List.mem_cons_self .. | apply List.mem_cons_of_mem)) (by kernel_rfl) rfl rfl ?_
      (repeat (first | with_reducible refine Sim.assoc ?_ | with_reducible refine Sim.pb ?_ | with_reducible refine Sim.ct ?_ | with_reducible refine Sim.cf ?_ | with_reducible refine Sim.ctb ?_ | with_reducible refine Sim.cfb ?_))
      first | refine sim_opl (hR.unary _) (fun _ h => nomatch h) fun r11 nr11 => ?_ | refine sim_opl1 (hR.unary _) (fun _ h => nomatch h) fun r11 nr11 => ?_
      refine sim_nodel [r11] [nr11] rfl (by decide) (by decide) (by kernel_rfl) (fun F hF => (.cons _ _ _ _ (hF (NodeF nr11 r11) (by repeat (first | exact List.mem_cons_self .. | apply List.mem_cons_of_mem))) .nil)) (fun p hp => by first | exact absurd hp List.not_mem_nil | (simp at hp; simp [hp])) fun r13 => ?_
      (repeat (first | with_reducible refine Sim.assoc ?_ | with_reducible refine Sim.pb ?_ | with_reducible refine Sim.ct ?_ | with_reducible refine Sim.cf ?_ | with_reducible refine Sim.ctb ?_ | with_reducible refine Sim.cfb ?_))
      exact sim_ret1 (t := tP) _ rfl (fun F hF => hF _ (by repeat (first | exact List.mem_cons_self .. | apply List.mem_cons_of_mem)))
    · skip
      (repeat (first | with_reducible refine Sim.assoc ?_ | with_reducible refine Sim.pb ?_ | with_reducible refine Sim.ct ?_ | with_reducible refine Sim.cf ?_ | with_reducible refine Sim.ctb ?_ | with_reducible refine Sim.cfb ?_))
      first | refine sim_op (postfix_m hR _) (fun _ h => nomatch h) fun r14 nr14 => ?_ | refine sim_op1 (postfix_m hR _) (fun _ h => nomatch h) fun r14 nr14 => ?_
      (repeat (first | with_reducible refine Sim.assoc ?_ | with_reducible refine Sim.pb ?_ | with_reducible refine Sim.ct ?_ | with_reducible refine Sim.cf ?_ | with_reducible refine Sim.ctb ?_ | with_reducible refine Sim.cfb ?_))
      exact sim_ret1 (t := tP) _ rfl (fun F hF => hF _ (by repeat (first | exact List.mem_cons_self .. | apply List.mem_cons_of_mem)))
end Go.Proofs.YtjlgcpgjdgeejaaGreatDoor
end

/- The parser's levels of operators. Conditions: none. -/
section
namespace Go.Proofs.YtjlgcpgjdgeejaaGreatDoor
open Go
set_option linter.unusedSimpArgs false
set_option linter.unusedVariables false
set_option linter.constructorNameAsVariable false
set_option maxRecDepth 100000

def encStr (s : ByteArray) : List Value := [.string s]
theorem rows_one {α : Type} (g : α → Value) (l : List α) : rows (fun x => [g x]) l = l.map g := by
  induction l with
  | nil => rfl
  | cons x l ih => rw [rows_cons, ih]; rfl
theorem run_nilSl {P : Program} {t e : TypeId} {n : Nat} (ht : slOf P t = some (e, n)) (x : SlD) (w : World) : (binS .eql t (.slice x.1 x.2.1 x.2.2) (.slice none 0 0)).run P w = .ok (.value (.bool x.1.isNone)) w := by
  obtain ⟨a, l, c⟩ := x
  have hu := (slOf_spec ht).1
  have h : ∀ a, (Op.equal t (.slice a l c) (.slice none 0 0)).run P w = .ok a.isNone w := fun a => by
    unfold Op.equal
    rw [show Op.maxDepth = 9999 + 1 from rfl, Op.equalIn]
    rw [Sem.run_bind, run_underlying hu, Result.andThen_ok]
    cases a <;> rfl
  simp [binS, valS, eqGuard, binOp, h]
theorem run_lits {α : Type} {t e : TypeId} {n : Nat} {ps : Array (Nat × Value)} {z : Value} (g : α → Value) (l : List α) (ht : slOf PG t = some (e, 1)) (hz : (PG.info? e).bind (·.zero) = some z) (hn : l.length = n) (h0 : 0 < n) (hsz : n ≤ 1000)
    (hf : Instr.fill (fun i => some (i * 1, 1)) ((Array.range (n * 1)).map (z.cells[· % z.cells.size]!)) ps.toList = some (l.map g).toArray) (w : World) :
    (sliceS t n ps).run PG w = .ok (.value (.slice (some ⟨w.heap.size, 0, none⟩) n n)) (w.alloc (blk e (l.map g))) := by
  have := run_sliceS (P := PG) (w := w) (t := t) (e := e) (n := n) (size := 1) (ps := ps) (cells := (l.map g).toArray) (zero := z) ht (by omega) hz hf (by omega)
  simpa using this
theorem loc_lits {α : Type} {L : Own} {Γ : List Fact} {t e : TypeId} {n : Nat} {ps : Array (Nat × Value)} {z : Value} (g : α → Value) (l : List α) (ht : slOf PG t = some (e, 1)) (hz : (PG.info? e).bind (·.zero) = some z) (hn : l.length = n) (h0 : 0 < n) (hsz : n ≤ 1000)
    (hf : Instr.fill (fun i => some (i * 1, 1)) ((Array.range (n * 1)).map (z.cells[· % z.cells.size]!)) ps.toList = some (l.map g).toArray) :
    Loc PG (sliceS t n ps) tSl L Γ fun y L' Γ' => L' = L ∧ (∃ b, y.1 = some ⟨b, 0, none⟩) ∧ Γ' = Sl 1 (fun x => [g x]) y l :: Γ :=
  Loc.val fun r w F H hF hsp => ⟨(some ⟨w.heap.size, 0, none⟩, n, n), _, L, _, F.ins w.heap.size (blk e (l.map g)), .inl (run_lits g l ht hz hn h0 hsz hf w), hsp.new_le _,
    Holds.cons (A := Sl 1 (fun x => [g x]) (some ⟨w.heap.size, 0, none⟩, n, n) l) ⟨hn.symm, .inr ⟨⟨w.heap.size, 0, none⟩, l.map g, e, rfl, rfl, by simp [Heap.ins], by
      rw [rows_one]; show List.take (1 * l.length) (l.map g) = _; rw [List.take_of_length_le (by simp)]⟩⟩ (hF.mono (hsp.new_le _)), hsp.newF _, rfl, ⟨w.heap.size, rfl⟩, rfl⟩
theorem sim_lits {ε σ β α : Type} {I : Ifc ε σ} {t1 : Ty} {Rel : β → t1.den → Own → Fact} {Δ : Labels ε σ β} {q : Option Quiet} {L : Own} {Γ : List Fact} {s : Sp ε σ β} {t e : TypeId} {n : Nat} {ps : Array (Nat × Value)} {z : Value} {k : SlD → T} (g : α → Value) (l : List α)
    (ht : slOf PG t = some (e, 1)) (hz : (PG.info? e).bind (·.zero) = some z) (hn : l.length = n) (h0 : 0 < n) (hsz : n ≤ 1000)
    (hf : Instr.fill (fun i => some (i * 1, 1)) ((Array.range (n * 1)).map (z.cells[· % z.cells.size]!)) ps.toList = some (l.map g).toArray)
    (hk : ∀ y b, y.1 = some ⟨b, 0, none⟩ → Sim PG I t1 Rel Δ none (k y) s L (Sl 1 (fun x => [g x]) y l :: Γ)) : Sim PG I t1 Rel Δ q (.op (sliceS t n ps) tSl k) s L Γ := by
  refine sim_loc (loc_lits g l ht hz hn h0 hsz hf) ?_
  rintro x _ _ ⟨rfl, ⟨b, hb⟩, rfl⟩
  exact hk x b hb
abbrev StrsF (l : List ByteArray) (x : SlD) : Fact := Sl 1 (fun s : ByteArray => [Value.string s]) x l
def SignsF (l : List ByteArray) (x : SlD) : Fact := (Fact.prop (x.1.isNone = l.isEmpty)).both (StrsF l x)
theorem signs_m {ε σ : Type} (I : Ifc ε σ) (n : Nat) (hn : n ≤ 10) : Meets PG I (callS F_syntax_signs #[.int .i64 n]) tSl (Pure.pure (signsL n)) SignsF [] := by
  refine c_syntax_signs n ?_
  unfold t_syntax_signs
  refine sim_lits (z := .string kE) (e := T_string) Value.string [k_bar_bar] (by kernel_rfl) (by kernel_rfl) rfl (by decide) (by decide) (by kernel_rfl) fun r1 b1 h1 => ?_
  refine sim_lits (z := .string kE) (e := T_string) Value.string [k_amp_amp] (by kernel_rfl) (by kernel_rfl) rfl (by decide) (by decide) (by kernel_rfl) fun r2 b2 h2 => ?_
  refine sim_lits (z := .string kE) (e := T_string) Value.string [k_bar] (by kernel_rfl) (by kernel_rfl) rfl (by decide) (by decide) (by kernel_rfl) fun r3 b3 h3 => ?_
  refine sim_lits (z := .string kE) (e := T_string) Value.string [k_caret] (by kernel_rfl) (by kernel_rfl) rfl (by decide) (by decide) (by kernel_rfl) fun r4 b4 h4 => ?_
  refine sim_lits (z := .string kE) (e := T_string) Value.string [k_amp] (by kernel_rfl) (by kernel_rfl) rfl (by decide) (by decide) (by kernel_rfl) fun r5 b5 h5 => ?_
  refine sim_lits (z := .string kE) (e := T_string) Value.string [k_eq_eq_eq, k_bang_eq_eq] (by kernel_rfl) (by kernel_rfl) rfl (by decide) (by decide) (by kernel_rfl) fun r6 b6 h6 => ?_
  refine sim_lits (z := .string kE) (e := T_string) Value.string [k_lt, k_lt_eq, k_gt, k_gt_eq, kin, kas] (by kernel_rfl) (by kernel_rfl) rfl (by decide) (by decide) (by kernel_rfl) fun r7 b7 h7 => ?_
  refine sim_lits (z := .string kE) (e := T_string) Value.string [k_lt_lt, k_gt_gt, k_gt_gt_gt] (by kernel_rfl) (by kernel_rfl) rfl (by decide) (by decide) (by kernel_rfl) fun r8 b8 h8 => ?_
  refine sim_lits (z := .string kE) (e := T_string) Value.string [k_plus, k_minus] (by kernel_rfl) (by kernel_rfl) rfl (by decide) (by decide) (by kernel_rfl) fun r9 b9 h9 => ?_
  refine sim_lits (z := .string kE) (e := T_string) Value.string [k_star, k_pct] (by kernel_rfl) (by kernel_rfl) rfl (by decide) (by decide) (by kernel_rfl) fun r10 b10 h10 => ?_
  refine sim_lits (z := .slice none 0 0) (e := T_Sstring) (fun x : SlD => Value.slice x.1 x.2.1 x.2.2) [r1, r2, r3, r4, r5, r6, r7, r8, r9, r10] (by kernel_rfl) (by kernel_rfl) rfl (by decide) (by decide) (by kernel_rfl) fun r11 b11 h11 => ?_
  refine Sim.note (φ := r11.2.1 = 10) (fun F hF => (hF (Sl 1 (fun x : SlD => [Value.slice x.1 x.2.1 x.2.2]) r11 [r1, r2, r3, r4, r5, r6, r7, r8, r9, r10]) (by repeat (first | exact List.mem_cons_self .. | apply List.mem_cons_of_mem))).1) fun hl => ?_
  refine sim_ite (fun h => ?_) (fun h => ?_)
  · have : n = 10 := by simp [hl] at h; omega
    subst this
    exact sim_ret1 (t := tSl) (none, 0, 0) rfl (fun F hF => ⟨rfl, rfl, .inl rfl⟩)
  · have hlt : n < 10 := by simp [hl] at h; omega
    have main : ∀ (y : SlD) (b : Nat) (ss : List ByteArray), [r1, r2, r3, r4, r5, r6, r7, r8, r9, r10][n]? = some y → y.1 = some ⟨b, 0, none⟩ → ss.isEmpty = false → signsL n = ss →
        StrsF ss y ∈ [Sl 1 (fun x : SlD => [Value.slice x.1 x.2.1 x.2.2]) r11 [r1, r2, r3, r4, r5, r6, r7, r8, r9, r10], StrsF [k_star, k_pct] r10, StrsF [k_plus, k_minus] r9, StrsF [k_lt_lt, k_gt_gt, k_gt_gt_gt] r8, StrsF [k_lt, k_lt_eq, k_gt, k_gt_eq, kin, kas] r7,
          StrsF [k_eq_eq_eq, k_bang_eq_eq] r6, StrsF [k_amp] r5, StrsF [k_caret] r4, StrsF [k_bar] r3, StrsF [k_amp_amp] r2, StrsF [k_bar_bar] r1] →
        Sim PG I tSl (pl SignsF) noLabel none (.op (idxAS T_SSstring (.slice r11.1 r11.2.1 r11.2.2) (.int .i64 n)) tA fun r12 => .op (ldS T_Sstring (.pointer (some r12))) tSl fun r13 => .ret #[.v (.slice r13.1 r13.2.1 r13.2.2)]) (Pure.pure (signsL n)) []
          [Sl 1 (fun x : SlD => [Value.slice x.1 x.2.1 x.2.2]) r11 [r1, r2, r3, r4, r5, r6, r7, r8, r9, r10], StrsF [k_star, k_pct] r10, StrsF [k_plus, k_minus] r9, StrsF [k_lt_lt, k_gt_gt, k_gt_gt_gt] r8, StrsF [k_lt, k_lt_eq, k_gt, k_gt_eq, kin, kas] r7,
          StrsF [k_eq_eq_eq, k_bang_eq_eq] r6, StrsF [k_amp] r5, StrsF [k_caret] r4, StrsF [k_bar] r3, StrsF [k_amp_amp] r2, StrsF [k_bar_bar] r1] := by
      intro y b ss hy hb hss hs hm
      refine sim_loc (loc_idx (f := fun x : SlD => [Value.slice x.1 x.2.1 x.2.2]) (l := [r1, r2, r3, r4, r5, r6, r7, r8, r9, r10]) h11 (fun F hF => hF _ (List.mem_cons_self ..)) (by kernel_rfl) n rfl (by simpa using hlt)) ?_
      rintro _ _ _ ⟨rfl, rfl, rfl⟩
      refine sim_loc (loc_elem1 (f := fun x : SlD => [Value.slice x.1 x.2.1 x.2.2]) (b := .slice) (fun _ => rfl) h11 (fun F hF => hF _ (List.mem_cons_self ..)) hy (by kernel_rfl) y rfl) ?_
      rintro _ _ _ ⟨rfl, rfl, rfl⟩
      rw [hs]
      exact sim_ret1 (t := tSl) y rfl (fun F hF => ⟨by rw [hb, hss]; rfl, hF _ hm⟩)
    have h : n = 0 ∨ n = 1 ∨ n = 2 ∨ n = 3 ∨ n = 4 ∨ n = 5 ∨ n = 6 ∨ n = 7 ∨ n = 8 ∨ n = 9 := by omega
    rcases h with rfl | rfl | rfl | rfl | rfl | rfl | rfl | rfl | rfl | rfl
    · exact main r1 b1 _ rfl h1 rfl rfl (by repeat (first | exact List.mem_cons_self .. | apply List.mem_cons_of_mem))
    · exact main r2 b2 _ rfl h2 rfl rfl (by repeat (first | exact List.mem_cons_self .. | apply List.mem_cons_of_mem))
    · exact main r3 b3 _ rfl h3 rfl rfl (by repeat (first | exact List.mem_cons_self .. | apply List.mem_cons_of_mem))
    · exact main r4 b4 _ rfl h4 rfl rfl (by repeat (first | exact List.mem_cons_self .. | apply List.mem_cons_of_mem))
    · exact main r5 b5 _ rfl h5 rfl rfl (by repeat (first | exact List.mem_cons_self .. | apply List.mem_cons_of_mem))
    · exact main r6 b6 _ rfl h6 rfl rfl (by repeat (first | exact List.mem_cons_self .. | apply List.mem_cons_of_mem))
    · exact main r7 b7 _ rfl h7 rfl rfl (by repeat (first | exact List.mem_cons_self .. | apply List.mem_cons_of_mem))
    · exact main r8 b8 _ rfl h8 rfl rfl (by repeat (first | exact List.mem_cons_self .. | apply List.mem_cons_of_mem))
    · exact main r9 b9 _ rfl h9 rfl rfl (by repeat (first | exact List.mem_cons_self .. | apply List.mem_cons_of_mem))
    · exact main r10 b10 _ rfl h10 rfl rfl (by repeat (first | exact List.mem_cons_self .. | apply List.mem_cons_of_mem))

def roundT (pb : Nat) (n : Int) (sl : SlD) (pos : Int) (p : Option Addr) : T :=
  .loop 1 [.b .ptr, .b (.int .i64)] [.pointer p, .int .i64 0] fun x6 =>
        .ite (decide ((x6.2.1 : Int) < (sl.2.1 : Int))) (
          .op (idxAS T_Sstring (.slice sl.1 sl.2.1 sl.2.2) (.int .i64 x6.2.1)) tA fun r7 =>
          .op (ldS T_string (.pointer (some r7))) tS fun r8 =>
          .op (callS F_parser_take #[.pointer (some (pAt pb)), .string r8]) tB fun r9 =>
          .ite (!r9) (
            .out 1 [.pointer x6.1, .int .i64 (IntKind.i64.wrap (x6.2.1 + 1))]) (
            .ite (r8.toList == kas.toList) (
              .op (callS F_parser_typed #[.pointer (some (pAt pb))]) tP fun r10 =>
              .op (sliceS T_SPsyntax_node 2 #[(0, .pointer x6.1), (1, .pointer r10)]) tSl fun r11 =>
              .op (callS F_syntax_made #[.int .i64 33, .string kE, .int .i64 0, .int .i64 pos, .slice r11.1 r11.2.1 r11.2.2]) tP fun r12 =>
              .out 0 [.slice sl.1 sl.2.1 sl.2.2, .int .i64 pos, .pointer r12]) (
              .op (callS F_parser_level #[.pointer (some (pAt pb)), .int .i64 (IntKind.i64.wrap (n + 1))]) tP fun r13 =>
              .op (sliceS T_SPsyntax_node 2 #[(0, .pointer x6.1), (1, .pointer r13)]) tSl fun r14 =>
              .op (callS F_syntax_made #[.int .i64 24, .string r8, .int .i64 0, .int .i64 pos, .slice r14.1 r14.2.1 r14.2.2]) tP fun r15 =>
              .out 0 [.slice sl.1 sl.2.1 sl.2.2, .int .i64 pos, .pointer r15]))) (
          .ret #[.v (.pointer x6.1)])
def lbAll (R : PRec) (ss : List ByteArray) (below : PM N) : Label Int PSt N :=
  { ι := Nat × Int × N, sp := fun j => againS R ss j.2.1 below j.1 j.2.2,
    J := fun j vs L' => Fact.ex fun p : Option Addr => Fact.ex fun sl : SlD => (Fact.prop (vs = [.slice sl.1 sl.2.1 sl.2.2, .int .i64 j.2.1, .pointer p] ∧ L' = [])).both ((StrsF ss sl).both (NodeF j.2.2 p)) }
def lbAg (R : PRec) (ss : List ByteArray) (below : PM N) (k : Nat) : Label Int PSt N :=
  { ι := { j : Nat × Int × N // j.1 < k }, sp := fun j => (lbAll R ss below).sp j.1, J := fun j vs L' => (lbAll R ss below).J j.1 vs L' }
def afterS (R : PRec) (ss : List ByteArray) (pos : Int) (below : PM N) (k : Nat) (x : N) (o : Option ByteArray) : PM N := match o with
    | none => pure x
    | some s => cond (s.toList == kas.toList) (do let y ← R.typed; againS R ss pos below k (mkN 33 kE 0 pos [x, y])) (do let y ← below; againS R ss pos below k (mkN 24 s 0 pos [x, y]))
theorem againS_eq (R : PRec) (ss : List ByteArray) (pos : Int) (below : PM N) (k : Nat) (x : N) : againS R ss pos below (k + 1) x = oneOfS ss >>= afterS R ss pos below k x := rfl
theorem round_sim {R : PRec} (hR : PRecM R) (pb : Nat) (n : Int) (ss : List ByteArray) (hss : ss.length ≤ 10) (pos : Int) (below : PM N) (hb : Meets PG (PI pb) (callS F_parser_level #[.pointer (some (pAt pb)), .int .i64 (IntKind.i64.wrap (n + 1))]) tP below NodeF [])
    {Δ : Labels Int PSt N} {q : Option Quiet} {Γ : List Fact} (k : Nat) (x : N) (p : Option Addr) (sl : SlD) (hsl : StrsF ss sl ∈ Γ) (hx : NodeF x p ∈ Γ) (h0 : Δ 0 = lbAg R ss below (k + 1)) :
    Sim PG (PI pb) tP (pl NodeF) Δ q (roundT pb n sl pos p) (againS R ss pos below (k + 1) x) [] Γ := by
  rw [againS_eq]
  unfold roundT
  refine sim_loop (x := { ι := { j : Nat // j ≤ ss.length }, sp := fun j => oneOfS (ss.drop j.1) >>= afterS R ss pos below k x, J := fun j vs L' => Fact.prop (vs = [.pointer p, .int .i64 j.1] ∧ L' = []) }) (fun j => ss.length - j.1) ⟨0, Nat.zero_le _⟩ rfl (fun F hF => ⟨rfl, rfl⟩) ?_ ?_
  · rintro ⟨j, hj⟩ vs L' F ⟨rfl, _⟩; exact ⟨(p, (j : Int), ()), rfl⟩
  · rintro ⟨j, hj⟩ L' ⟨p', j', ⟨⟩⟩
    refine Sim.prop fun ⟨hv, hL⟩ => ?_
    subst hL
    have h1 := (List.cons.inj hv).1
    have h2 := (List.cons.inj (List.cons.inj hv).2).1
    obtain rfl : p' = p := by cases h1; rfl
    obtain rfl : j' = (j : Int) := by cases h2; rfl
    refine Sim.note (φ := sl.2.1 = ss.length) (fun F hF => (hF _ hsl).1) fun hl => ?_
    refine sim_ite (fun h => ?_) (fun h => ?_)
    · have hlt : j < ss.length := by simp [hl] at h; omega
      refine Sim.note (φ := ∃ a, sl.1 = some a ∧ a.spot = none) (fun F hF => Sl.addr (hF _ hsl) (by omega)) fun ⟨a, ha, _⟩ => ?_
      have hd : ss.drop j = ss.getD j kE :: ss.drop (j + 1) := by
        rw [List.drop_eq_getElem_cons hlt]; simp [hlt]
      refine sim_loc (loc_idx ha (fun F hF => hF _ hsl) (by kernel_rfl) j rfl hlt) ?_
      rintro _ _ _ ⟨rfl, rfl, rfl⟩
      refine sim_loc (loc_elem1 (b := .str) (fun _ => rfl) ha (fun F hF => hF _ hsl) (getD_some (d := kE) hlt) (by kernel_rfl) (ss.getD j kE) rfl) ?_
      rintro _ _ _ ⟨rfl, rfl, rfl⟩
      show Sim PG (PI pb) tP (pl NodeF) _ none _ (oneOfS (ss.drop j) >>= afterS R ss pos below k x) [] _
      rw [hd]
      show Sim PG (PI pb) tP (pl NodeF) _ none _ ((takeS (ss.getD j kE) >>= fun b => cond b (pure (some (ss.getD j kE))) (oneOfS (ss.drop (j + 1)))) >>= afterS R ss pos below k x) [] _
      refine Sim.assoc (sim_op (take_m _ _) (fun _ h => nomatch h) fun r9 b => Sim.prop fun h => ?_)
      subst h
      refine sim_condnb (fun h => ?_) (fun h => ?_)
      · refine sim_outX rfl ⟨⟨j + 1, hlt⟩, ?_⟩ rfl fun F hF => ⟨?_, rfl⟩
        · show ss.length - (j + 1) < ss.length - j; omega
        · show [Value.pointer p', .int .i64 (IntKind.i64.wrap ((j : Int) + 1))] = [.pointer p', .int .i64 ((j + 1 : Nat) : Int)]
          rw [wrap_id (by omega) (by omega)]; simp
      · show Sim PG (PI pb) tP (pl NodeF) _ none _ (afterS R ss pos below k x (some (ss.getD j kE))) [] _
        unfold afterS
        refine sim_cond (fun h => ?_) (fun h => ?_)
        · refine sim_op (hR.typed _) (fun _ h => nomatch h) fun r10 n10 => ?_
          refine sim_node [p', r10] [x, n10] rfl (by decide) (by decide) (by kernel_rfl) (fun F hF => .cons _ _ _ _ (hF (NodeF x p') (List.mem_cons_of_mem _ hx)) (.cons _ _ _ _ (hF (NodeF n10 r10) (by repeat (first | exact List.mem_cons_self .. | apply List.mem_cons_of_mem))) .nil)) fun r12 => ?_
          refine sim_outX (x := lbAg R ss below (k + 1)) (by simp [Labels.set, h0]) ⟨(k, pos, mkN 33 kE 0 pos [x, n10]), Nat.lt_succ_self k⟩ rfl fun F hF => ⟨r12, sl, ⟨rfl, rfl⟩, hF _ (List.mem_cons_of_mem _ (List.mem_cons_of_mem _ hsl)), hF _ (List.mem_cons_self ..)⟩
        · refine sim_op hb (fun _ h => nomatch h) fun r13 n13 => ?_
          refine sim_node [p', r13] [x, n13] rfl (by decide) (by decide) (by kernel_rfl) (fun F hF => .cons _ _ _ _ (hF (NodeF x p') (List.mem_cons_of_mem _ hx)) (.cons _ _ _ _ (hF (NodeF n13 r13) (by repeat (first | exact List.mem_cons_self .. | apply List.mem_cons_of_mem))) .nil)) fun r15 => ?_
          refine sim_outX (x := lbAg R ss below (k + 1)) (by simp [Labels.set, h0]) ⟨(k, pos, mkN 24 (ss.getD j kE) 0 pos [x, n13]), Nat.lt_succ_self k⟩ rfl fun F hF => ⟨r15, sl, ⟨rfl, rfl⟩, hF _ (List.mem_cons_of_mem _ (List.mem_cons_of_mem _ hsl)), hF _ (List.mem_cons_self ..)⟩
    · have hge : ss.length ≤ j := by simp [hl] at h; omega
      refine Sim.spec (s' := pure x) ?_ (sim_ret1 (t := tP) p' rfl (fun F hF => hF _ hx))
      show (oneOfS (ss.drop j) >>= afterS R ss pos below k x) = _
      rw [List.drop_eq_nil_of_le hge]; rfl
theorem signsL_len (n : Nat) : (signsL n).length ≤ 10 := by unfold signsL; split <;> simp
theorem level_m {R : PRec} (hR : PRecM R) (pb : Nat) : ∀ m, m ≤ 10 → Meets PG (PI pb) (callS F_parser_level #[.pointer (some (pAt pb)), .int .i64 ((10 - m : Nat) : Int)]) tP (levelS R m) NodeF [] := by
  intro m
  induction m with
  | zero =>
    intro _
    refine c_parser_level (pAt pb) 10 ?_
    unfold t_parser_level
    refine sim_join (x := { ι := Empty, sp := fun i => i.elim, J := fun i => i.elim }) ?_ fun i => i.elim
    refine sim_valR (signs_m _ 10 (Nat.le_refl _)) (fun _ h => nomatch h) fun r1 => Sim.both (Sim.prop fun h1 => ?_)
    refine sim_loc (loc_pure (t1 := tB) r1.1.isNone fun w => run_nilSl (e := T_string) (n := 1) (by kernel_rfl) r1 w) ?_
    rintro _ _ _ ⟨rfl, rfl, rfl⟩
    refine sim_ite (fun h => ?_) (fun h => ?_)
    · refine sim_op1 (unary_m hR _) (fun _ h => nomatch h) fun r3 n3 => ?_
      exact sim_ret1 (t := tP) _ rfl (fun F hF => hF _ (by repeat (first | exact List.mem_cons_self .. | apply List.mem_cons_of_mem)))
    · rw [h1] at h; cases h
  | succ m ih =>
    intro hm
    have hn : 10 - (m + 1) = 9 - m := by omega
    rw [hn]
    have hb : Meets PG (PI pb) (callS F_parser_level #[.pointer (some (pAt pb)), .int .i64 (IntKind.i64.wrap (((9 - m : Nat) : Int) + 1))]) tP (levelS R m) NodeF [] := by
      have h := ih (by omega)
      rw [wrap_id (by omega) (by omega), show ((9 - m : Nat) : Int) + 1 = ((10 - m : Nat) : Int) by omega]
      exact h
    have hss : (signsL (9 - m)).isEmpty = false := by
      have h : m = 0 ∨ m = 1 ∨ m = 2 ∨ m = 3 ∨ m = 4 ∨ m = 5 ∨ m = 6 ∨ m = 7 ∨ m = 8 ∨ m = 9 := by omega
      rcases h with rfl | rfl | rfl | rfl | rfl | rfl | rfl | rfl | rfl | rfl <;> rfl
    refine c_parser_level (pAt pb) ((9 - m : Nat) : Int) ?_
    unfold t_parser_level
    refine sim_join (x := lbAg R (signsL (9 - m)) (levelS R m) R.fuel) ?_ fun i vs L' => ⟨?_, fun y => ?_⟩
    · refine sim_valR (signs_m _ (9 - m) (by omega)) (fun _ h => nomatch h) fun r1 => Sim.both (Sim.prop fun h1 => ?_)
      refine sim_loc (loc_pure (t1 := tB) r1.1.isNone fun w => run_nilSl (e := T_string) (n := 1) (by kernel_rfl) r1 w) ?_
      rintro _ _ _ ⟨rfl, rfl, rfl⟩
      refine sim_ite (fun h => ?_) (fun h => ?_)
      · rw [h1, hss] at h; cases h
      · show Sim PG (PI pb) tP (pl NodeF) _ none _ (nowS >>= fun t => levelS R m >>= fun x => againS R (signsL (9 - m)) t.pos (levelS R m) R.fuel x) [] _
        refine sim_op (now_m _) (fun _ h => nomatch h) fun r4 b => Sim.prop fun h => ?_
        subst h
        refine sim_op hb (fun _ h => nomatch h) fun r5 n5 => ?_
        cases hf : R.fuel with
        | zero => intro r w F H st res S hs; cases hs
        | succ k => exact round_sim hR pb _ _ (signsL_len _) _ _ hb k n5 r5 r1 (by repeat (first | exact List.mem_cons_self .. | apply List.mem_cons_of_mem)) (by repeat (first | exact List.mem_cons_self .. | apply List.mem_cons_of_mem)) rfl
    · rintro F ⟨p, sl, ⟨rfl, _⟩, _⟩; exact ⟨(sl, i.1.2.1, p, ()), rfl⟩
    · refine Sim.ex fun p => Sim.ex fun sl => Sim.both (Sim.prop fun ⟨hv, hL⟩ => ?_)
      subst hL
      refine sim_loop (x := lbAll R (signsL (9 - m)) (levelS R m)) (fun j => j.1) i.1 rfl (fun F hF => ⟨p, sl, ⟨hv, rfl⟩, hF _ (by repeat (first | exact List.mem_cons_self .. | apply List.mem_cons_of_mem))⟩) ?_ ?_
      · rintro j vs L' F ⟨p, sl, ⟨rfl, _⟩, _⟩; exact ⟨(sl, j.2.1, p, ()), rfl⟩
      · rintro ⟨k, pos, x⟩ L' ⟨sl', pos', p', ⟨⟩⟩
        refine Sim.ex fun p2 => Sim.ex fun sl2 => Sim.both (Sim.prop fun ⟨hv, hL⟩ => Sim.both ?_)
        subst hL
        have e1 := (List.cons.inj hv).1
        have e2 := (List.cons.inj (List.cons.inj hv).2).1
        have e3 := (List.cons.inj (List.cons.inj (List.cons.inj hv).2).2).1
        obtain rfl : pos' = pos := by cases e2; rfl
        obtain rfl : p' = p2 := by cases e3; rfl
        obtain rfl : sl' = sl2 := by
          obtain ⟨a, b, c⟩ := sl'; obtain ⟨a2, b2, c2⟩ := sl2
          have e1' : Value.slice a b c = Value.slice a2 b2 c2 := e1
          cases e1'; rfl
        cases k with
        | zero => intro r w F H st res S hs; cases hs
        | succ k => exact round_sim hR pb _ _ (signsL_len _) _ _ hb k x p' sl' (by repeat (first | exact List.mem_cons_self .. | apply List.mem_cons_of_mem)) (by repeat (first | exact List.mem_cons_self .. | apply List.mem_cons_of_mem)) rfl
end Go.Proofs.YtjlgcpgjdgeejaaGreatDoor
end

/- The parser of expressions: levels. Conditions: none. -/
section
namespace Go.Proofs.YtjlgcpgjdgeejaaGreatDoor
open Go
set_option linter.unusedSimpArgs false
set_option linter.unusedVariables false
set_option linter.constructorNameAsVariable false
set_option maxRecDepth 100000

theorem emptyO_m (pb : Nat) : MeetsO PG (PI pb) (callS F_parser_empty #[.pointer (some (pAt pb))]) tP emptyS OwnN [] := by
  refine c_parser_empty (pAt pb) ?_
  unfold t_parser_empty emptyS
  refine sim_op (now_m pb) (fun _ h => nomatch h) fun x b => Sim.prop fun h => ?_
  subst h
  refine sim_own0 fun y K => ?_
  exact sim_ret1O (t := tP) K (List.sublist_append_left ..) _ rfl (fun F hF => hF _ (List.mem_cons_self ..))
theorem arrowed_m {R : PRec} (hR : PRecM R) (pb : Nat) (pos : Int) : Meets PG (PI pb) (callS F_parser_arrowed #[.pointer (some (pAt pb)), .int .i64 pos]) tP (arrowedS R pos) NodeF [] := by
  refine c_parser_arrowed (pAt pb) pos ?_
  unfold t_parser_arrowed arrowedS
  (repeat (first | with_reducible refine Sim.assoc ?_ | with_reducible refine Sim.pb ?_ | with_reducible refine Sim.ct ?_ | with_reducible refine Sim.cf ?_ | with_reducible refine Sim.ctb ?_ | with_reducible refine Sim.cfb ?_))
  first | refine sim_op (empty_m _) (fun _ h => nomatch h) fun r1 nr1 => ?_ | refine sim_op1 (empty_m _) (fun _ h => nomatch h) fun r1 nr1 => ?_
  (repeat (first | with_reducible refine Sim.assoc ?_ | with_reducible refine Sim.pb ?_ | with_reducible refine Sim.ct ?_ | with_reducible refine Sim.cf ?_ | with_reducible refine Sim.ctb ?_ | with_reducible refine Sim.cfb ?_))
  refine sim_opO (emptyO_m _) (fun _ h => nomatch h) fun r2 nr2 Kr2 => ?_
  (repeat (first | with_reducible refine Sim.assoc ?_ | with_reducible refine Sim.pb ?_ | with_reducible refine Sim.ct ?_ | with_reducible refine Sim.cf ?_ | with_reducible refine Sim.ctb ?_ | with_reducible refine Sim.cfb ?_))
  first | refine sim_op (now_m _) (fun _ h => nomatch h) fun r3 b => Sim.prop fun h => ?_ | refine sim_op1 (now_m _) (fun _ h => nomatch h) fun r3 b => Sim.prop fun h => ?_
  subst h
  refine sim_joinPPb ?_ fun nx1 nx2 x1 x2 => ?_
  · skip
    (repeat (first | with_reducible refine Sim.assoc ?_ | with_reducible refine Sim.pb ?_ | with_reducible refine Sim.ct ?_ | with_reducible refine Sim.cf ?_ | with_reducible refine Sim.ctb ?_ | with_reducible refine Sim.cfb ?_))
    (first | refine sim_cond (fun h => ?_) (fun h => ?_) | refine sim_condb (fun h => ?_) (fun h => ?_) | refine sim_condn (fun h => ?_) (fun h => ?_) | refine sim_condnb (fun h => ?_) (fun h => ?_) | refine sim_ite (fun h => ?_) (fun h => ?_)) -- ((r3.1 : Int) == 1)
    · skip
      (repeat (first | with_reducible refine Sim.assoc ?_ | with_reducible refine Sim.pb ?_ | with_reducible refine Sim.ct ?_ | with_reducible refine Sim.cf ?_ | with_reducible refine Sim.ctb ?_ | with_reducible refine Sim.cfb ?_))
      first | refine sim_op (name_m _) (fun _ h => nomatch h) fun r4 b => Sim.prop fun h => ?_ | refine sim_op1 (name_m _) (fun _ h => nomatch h) fun r4 b => Sim.prop fun h => ?_
      subst h
      (repeat (first | with_reducible refine Sim.assoc ?_ | with_reducible refine Sim.pb ?_ | with_reducible refine Sim.ct ?_ | with_reducible refine Sim.cf ?_ | with_reducible refine Sim.ctb ?_ | with_reducible refine Sim.cfb ?_))
      first | refine sim_op (none_m _) (fun _ h => nomatch h) fun r5 nr5 => ?_ | refine sim_op1 (none_m _) (fun _ h => nomatch h) fun r5 nr5 => ?_
      refine sim_node [r5] [nr5] rfl (by decide) (by decide) (by kernel_rfl) (fun F hF => (.cons _ _ _ _ (hF (NodeF nr5 r5) (by repeat (first | exact List.mem_cons_self .. | apply List.mem_cons_of_mem))) .nil)) fun r7 => ?_
      refine sim_loc (loc_ptrs [r7] rfl (by decide) (by decide) (by kernel_rfl)) ?_
      rintro sl _ _ ⟨rfl, rfl⟩
      refine sim_storeKids (n := nr2) (ps := [r7]) (kids := [mkN 66 r4 0 pos [nr5]]) (by repeat (first | exact List.mem_cons_self .. | apply List.mem_cons_of_mem)) (fun F hF => ⟨hF _ (List.mem_cons_self ..), .cons _ _ _ _ (hF (NodeF (mkN 66 r4 0 pos [nr5]) r7) (by repeat (first | exact List.mem_cons_self .. | apply List.mem_cons_of_mem))) .nil⟩) ?_
      exact sim_outPP (nr1, nr2.setKids [mkN 66 r4 0 pos [nr5]]) rfl (by repeat (first | exact List.mem_cons_self .. | apply List.mem_cons_of_mem)) (by repeat (first | exact List.mem_cons_self .. | apply List.mem_cons_of_mem))
    · skip
      (repeat (first | with_reducible refine Sim.assoc ?_ | with_reducible refine Sim.pb ?_ | with_reducible refine Sim.ct ?_ | with_reducible refine Sim.cf ?_ | with_reducible refine Sim.ctb ?_ | with_reducible refine Sim.cfb ?_))
      first | refine sim_op (vars_m hR _) (fun _ h => nomatch h) fun r11 nr11 => ?_ | refine sim_op1 (vars_m hR _) (fun _ h => nomatch h) fun r11 nr11 => ?_
      (repeat (first | with_reducible refine Sim.assoc ?_ | with_reducible refine Sim.pb ?_ | with_reducible refine Sim.ct ?_ | with_reducible refine Sim.cf ?_ | with_reducible refine Sim.ctb ?_ | with_reducible refine Sim.cfb ?_))
      first | refine sim_op (must_m _ _) (fun _ h => nomatch h) fun x b => ?_ | refine sim_op1 (must_m _ _) (fun _ h => nomatch h) fun x b => ?_
      (repeat (first | with_reducible refine Sim.assoc ?_ | with_reducible refine Sim.pb ?_ | with_reducible refine Sim.ct ?_ | with_reducible refine Sim.cf ?_ | with_reducible refine Sim.ctb ?_ | with_reducible refine Sim.cfb ?_))
      first | refine sim_op (params_m hR _ _) (fun _ h => nomatch h) fun r13 nr13 => ?_ | refine sim_op1 (params_m hR _ _) (fun _ h => nomatch h) fun r13 nr13 => ?_
      (repeat (first | with_reducible refine Sim.assoc ?_ | with_reducible refine Sim.pb ?_ | with_reducible refine Sim.ct ?_ | with_reducible refine Sim.cf ?_ | with_reducible refine Sim.ctb ?_ | with_reducible refine Sim.cfb ?_))
      first | refine sim_op (must_m _ _) (fun _ h => nomatch h) fun x b => ?_ | refine sim_op1 (must_m _ _) (fun _ h => nomatch h) fun x b => ?_
      exact sim_outPP (nr11, nr13) rfl (by repeat (first | exact List.mem_cons_self .. | apply List.mem_cons_of_mem)) (by repeat (first | exact List.mem_cons_self .. | apply List.mem_cons_of_mem))
  · skip
    (repeat (first | with_reducible refine Sim.assoc ?_ | with_reducible refine Sim.pb ?_ | with_reducible refine Sim.ct ?_ | with_reducible refine Sim.cf ?_ | with_reducible refine Sim.ctb ?_ | with_reducible refine Sim.cfb ?_))
    first | refine sim_op (must_m _ _) (fun _ h => nomatch h) fun x b => ?_ | refine sim_op1 (must_m _ _) (fun _ h => nomatch h) fun x b => ?_
    (repeat (first | with_reducible refine Sim.assoc ?_ | with_reducible refine Sim.pb ?_ | with_reducible refine Sim.ct ?_ | with_reducible refine Sim.cf ?_ | with_reducible refine Sim.ctb ?_ | with_reducible refine Sim.cfb ?_))
    first | refine sim_op (is_m _ _) (fun _ h => nomatch h) fun r17 b => Sim.prop fun h => ?_ | refine sim_op1 (is_m _ _) (fun _ h => nomatch h) fun r17 b => Sim.prop fun h => ?_
    subst h
    (repeat (first | with_reducible refine Sim.assoc ?_ | with_reducible refine Sim.pb ?_ | with_reducible refine Sim.ct ?_ | with_reducible refine Sim.cf ?_ | with_reducible refine Sim.ctb ?_ | with_reducible refine Sim.cfb ?_))
    (first | refine sim_cond (fun h => ?_) (fun h => ?_) | refine sim_condb (fun h => ?_) (fun h => ?_) | refine sim_condn (fun h => ?_) (fun h => ?_) | refine sim_condnb (fun h => ?_) (fun h => ?_) | refine sim_ite (fun h => ?_) (fun h => ?_)) -- r17
    · skip
      (repeat (first | with_reducible refine Sim.assoc ?_ | with_reducible refine Sim.pb ?_ | with_reducible refine Sim.ct ?_ | with_reducible refine Sim.cf ?_ | with_reducible refine Sim.ctb ?_ | with_reducible refine Sim.cfb ?_))
      first | refine sim_op (hR.block _) (fun _ h => nomatch h) fun r18 nr18 => ?_ | refine sim_op1 (hR.block _) (fun _ h => nomatch h) fun r18 nr18 => ?_
      refine sim_node [x1, x2, r18] [nx1, nx2, nr18] rfl (by decide) (by decide) (by kernel_rfl) (fun F hF => (.cons _ _ _ _ (hF (NodeF nx1 x1) (by repeat (first | exact List.mem_cons_self .. | apply List.mem_cons_of_mem))) (.cons _ _ _ _ (hF (NodeF nx2 x2) (by repeat (first | exact List.mem_cons_self .. | apply List.mem_cons_of_mem))) (.cons _ _ _ _ (hF (NodeF nr18 r18) (by repeat (first | exact List.mem_cons_self .. | apply List.mem_cons_of_mem))) .nil)))) fun r20 => ?_
      (repeat (first | with_reducible refine Sim.assoc ?_ | with_reducible refine Sim.pb ?_ | with_reducible refine Sim.ct ?_ | with_reducible refine Sim.cf ?_ | with_reducible refine Sim.ctb ?_ | with_reducible refine Sim.cfb ?_))
      exact sim_ret1 (t := tP) _ rfl (fun F hF => hF _ (by repeat (first | exact List.mem_cons_self .. | apply List.mem_cons_of_mem)))
    · skip
      (repeat (first | with_reducible refine Sim.assoc ?_ | with_reducible refine Sim.pb ?_ | with_reducible refine Sim.ct ?_ | with_reducible refine Sim.cf ?_ | with_reducible refine Sim.ctb ?_ | with_reducible refine Sim.cfb ?_))
      first | refine sim_op (hR.expr _) (fun _ h => nomatch h) fun r21 nr21 => ?_ | refine sim_op1 (hR.expr _) (fun _ h => nomatch h) fun r21 nr21 => ?_
      refine sim_node [x1, x2, r21] [nx1, nx2, nr21] rfl (by decide) (by decide) (by kernel_rfl) (fun F hF => (.cons _ _ _ _ (hF (NodeF nx1 x1) (by repeat (first | exact List.mem_cons_self .. | apply List.mem_cons_of_mem))) (.cons _ _ _ _ (hF (NodeF nx2 x2) (by repeat (first | exact List.mem_cons_self .. | apply List.mem_cons_of_mem))) (.cons _ _ _ _ (hF (NodeF nr21 r21) (by repeat (first | exact List.mem_cons_self .. | apply List.mem_cons_of_mem))) .nil)))) fun r23 => ?_
      (repeat (first | with_reducible refine Sim.assoc ?_ | with_reducible refine Sim.pb ?_ | with_reducible refine Sim.ct ?_ | with_reducible refine Sim.cf ?_ | with_reducible refine Sim.ctb ?_ | with_reducible refine Sim.cfb ?_))
      exact sim_ret1 (t := tP) _ rfl (fun F hF => hF _ (by repeat (first | exact List.mem_cons_self .. | apply List.mem_cons_of_mem)))
theorem cond_m {R : PRec} (hR : PRecM R) (pb : Nat) : Meets PG (PI pb) (callS F_parser_cond #[.pointer (some (pAt pb))]) tP (condS R) NodeF [] := by
  refine c_parser_cond (pAt pb) ?_
  unfold t_parser_cond condS
  (repeat (first | with_reducible refine Sim.assoc ?_ | with_reducible refine Sim.pb ?_ | with_reducible refine Sim.ct ?_ | with_reducible refine Sim.cf ?_ | with_reducible refine Sim.ctb ?_ | with_reducible refine Sim.cfb ?_))
  first | refine sim_op (now_m _) (fun _ h => nomatch h) fun r1 b => Sim.prop fun h => ?_ | refine sim_op1 (now_m _) (fun _ h => nomatch h) fun r1 b => Sim.prop fun h => ?_
  subst h
  refine sim_op (level_m hR _ 10 (by decide)) (fun _ h => nomatch h) fun r2 nr2 => ?_
  (repeat (first | with_reducible refine Sim.assoc ?_ | with_reducible refine Sim.pb ?_ | with_reducible refine Sim.ct ?_ | with_reducible refine Sim.cf ?_ | with_reducible refine Sim.ctb ?_ | with_reducible refine Sim.cfb ?_))
  first | refine sim_op (take_m _ _) (fun _ h => nomatch h) fun r3 b => Sim.prop fun h => ?_ | refine sim_op1 (take_m _ _) (fun _ h => nomatch h) fun r3 b => Sim.prop fun h => ?_
  subst h
  (repeat (first | with_reducible refine Sim.assoc ?_ | with_reducible refine Sim.pb ?_ | with_reducible refine Sim.ct ?_ | with_reducible refine Sim.cf ?_ | with_reducible refine Sim.ctb ?_ | with_reducible refine Sim.cfb ?_))
  (first | refine sim_cond (fun h => ?_) (fun h => ?_) | refine sim_condb (fun h => ?_) (fun h => ?_) | refine sim_condn (fun h => ?_) (fun h => ?_) | refine sim_condnb (fun h => ?_) (fun h => ?_) | refine sim_ite (fun h => ?_) (fun h => ?_)) -- (!r3)
  · skip
    (repeat (first | with_reducible refine Sim.assoc ?_ | with_reducible refine Sim.pb ?_ | with_reducible refine Sim.ct ?_ | with_reducible refine Sim.cf ?_ | with_reducible refine Sim.ctb ?_ | with_reducible refine Sim.cfb ?_))
    exact sim_ret1 (t := tP) _ rfl (fun F hF => hF _ (by repeat (first | exact List.mem_cons_self .. | apply List.mem_cons_of_mem)))
  · skip
    (repeat (first | with_reducible refine Sim.assoc ?_ | with_reducible refine Sim.pb ?_ | with_reducible refine Sim.ct ?_ | with_reducible refine Sim.cf ?_ | with_reducible refine Sim.ctb ?_ | with_reducible refine Sim.cfb ?_))
    first | refine sim_op (hR.expr _) (fun _ h => nomatch h) fun r4 nr4 => ?_ | refine sim_op1 (hR.expr _) (fun _ h => nomatch h) fun r4 nr4 => ?_
    (repeat (first | with_reducible refine Sim.assoc ?_ | with_reducible refine Sim.pb ?_ | with_reducible refine Sim.ct ?_ | with_reducible refine Sim.cf ?_ | with_reducible refine Sim.ctb ?_ | with_reducible refine Sim.cfb ?_))
    first | refine sim_op (must_m _ _) (fun _ h => nomatch h) fun x b => ?_ | refine sim_op1 (must_m _ _) (fun _ h => nomatch h) fun x b => ?_
    (repeat (first | with_reducible refine Sim.assoc ?_ | with_reducible refine Sim.pb ?_ | with_reducible refine Sim.ct ?_ | with_reducible refine Sim.cf ?_ | with_reducible refine Sim.ctb ?_ | with_reducible refine Sim.cfb ?_))
    first | refine sim_op (hR.expr _) (fun _ h => nomatch h) fun r6 nr6 => ?_ | refine sim_op1 (hR.expr _) (fun _ h => nomatch h) fun r6 nr6 => ?_
    refine sim_node [r2, r4, r6] [nr2, nr4, nr6] rfl (by decide) (by decide) (by kernel_rfl) (fun F hF => (.cons _ _ _ _ (hF (NodeF nr2 r2) (by repeat (first | exact List.mem_cons_self .. | apply List.mem_cons_of_mem))) (.cons _ _ _ _ (hF (NodeF nr4 r4) (by repeat (first | exact List.mem_cons_self .. | apply List.mem_cons_of_mem))) (.cons _ _ _ _ (hF (NodeF nr6 r6) (by repeat (first | exact List.mem_cons_self .. | apply List.mem_cons_of_mem))) .nil)))) fun r8 => ?_
    (repeat (first | with_reducible refine Sim.assoc ?_ | with_reducible refine Sim.pb ?_ | with_reducible refine Sim.ct ?_ | with_reducible refine Sim.cf ?_ | with_reducible refine Sim.ctb ?_ | with_reducible refine Sim.cfb ?_))
    exact sim_ret1 (t := tP) _ rfl (fun F hF => hF _ (by repeat (first | exact List.mem_cons_self .. | apply List.mem_cons_of_mem)))
theorem expr_m {R : PRec} (hR : PRecM R) (pb : Nat) : Meets PG (PI pb) (callS F_parser_expr #[.pointer (some (pAt pb))]) tP (exprS R (condS R)) NodeF [] := by
  refine c_parser_expr (pAt pb) ?_
  unfold t_parser_expr exprS
  (repeat (first | with_reducible refine Sim.assoc ?_ | with_reducible refine Sim.pb ?_ | with_reducible refine Sim.ct ?_ | with_reducible refine Sim.cf ?_ | with_reducible refine Sim.ctb ?_ | with_reducible refine Sim.cfb ?_))
  first | refine sim_op (now_m _) (fun _ h => nomatch h) fun r1 b => Sim.prop fun h => ?_ | refine sim_op1 (now_m _) (fun _ h => nomatch h) fun r1 b => Sim.prop fun h => ?_
  subst h
  (repeat (first | with_reducible refine Sim.assoc ?_ | with_reducible refine Sim.pb ?_ | with_reducible refine Sim.ct ?_ | with_reducible refine Sim.cf ?_ | with_reducible refine Sim.ctb ?_ | with_reducible refine Sim.cfb ?_))
  first | refine sim_op (arrow_m _) (fun _ h => nomatch h) fun r2 b => Sim.prop fun h => ?_ | refine sim_op1 (arrow_m _) (fun _ h => nomatch h) fun r2 b => Sim.prop fun h => ?_
  subst h
  (repeat (first | with_reducible refine Sim.assoc ?_ | with_reducible refine Sim.pb ?_ | with_reducible refine Sim.ct ?_ | with_reducible refine Sim.cf ?_ | with_reducible refine Sim.ctb ?_ | with_reducible refine Sim.cfb ?_))
  (first | refine sim_cond (fun h => ?_) (fun h => ?_) | refine sim_condb (fun h => ?_) (fun h => ?_) | refine sim_condn (fun h => ?_) (fun h => ?_) | refine sim_condnb (fun h => ?_) (fun h => ?_) | refine sim_ite (fun h => ?_) (fun h => ?_)) -- r2
  · skip
    (repeat (first | with_reducible refine Sim.assoc ?_ | with_reducible refine Sim.pb ?_ | with_reducible refine Sim.ct ?_ | with_reducible refine Sim.cf ?_ | with_reducible refine Sim.ctb ?_ | with_reducible refine Sim.cfb ?_))
    first | refine sim_op (arrowed_m hR _ _) (fun _ h => nomatch h) fun r3 nr3 => ?_ | refine sim_op1 (arrowed_m hR _ _) (fun _ h => nomatch h) fun r3 nr3 => ?_
    (repeat (first | with_reducible refine Sim.assoc ?_ | with_reducible refine Sim.pb ?_ | with_reducible refine Sim.ct ?_ | with_reducible refine Sim.cf ?_ | with_reducible refine Sim.ctb ?_ | with_reducible refine Sim.cfb ?_))
    exact sim_ret1 (t := tP) _ rfl (fun F hF => hF _ (by repeat (first | exact List.mem_cons_self .. | apply List.mem_cons_of_mem)))
  · skip
    (repeat (first | with_reducible refine Sim.assoc ?_ | with_reducible refine Sim.pb ?_ | with_reducible refine Sim.ct ?_ | with_reducible refine Sim.cf ?_ | with_reducible refine Sim.ctb ?_ | with_reducible refine Sim.cfb ?_))
    first | refine sim_op (cond_m hR _) (fun _ h => nomatch h) fun r4 nr4 => ?_ | refine sim_op1 (cond_m hR _) (fun _ h => nomatch h) fun r4 nr4 => ?_
    (repeat (first | with_reducible refine Sim.assoc ?_ | with_reducible refine Sim.pb ?_ | with_reducible refine Sim.ct ?_ | with_reducible refine Sim.cf ?_ | with_reducible refine Sim.ctb ?_ | with_reducible refine Sim.cfb ?_))
    first | refine sim_op (now_m _) (fun _ h => nomatch h) fun r5 b => Sim.prop fun h => ?_ | refine sim_op1 (now_m _) (fun _ h => nomatch h) fun r5 b => Sim.prop fun h => ?_
    subst h
    (repeat (first | with_reducible refine Sim.assoc ?_ | with_reducible refine Sim.pb ?_ | with_reducible refine Sim.ct ?_ | with_reducible refine Sim.cf ?_ | with_reducible refine Sim.ctb ?_ | with_reducible refine Sim.cfb ?_))
    first | refine sim_op (take_m _ _) (fun _ h => nomatch h) fun r6 b => Sim.prop fun h => ?_ | refine sim_op1 (take_m _ _) (fun _ h => nomatch h) fun r6 b => Sim.prop fun h => ?_
    subst h
    first | refine sim_joinBb ?_ fun x11 => ?_ | refine sim_joinBc ?_ fun x11 => ?_
    · skip
      (repeat (first | with_reducible refine Sim.assoc ?_ | with_reducible refine Sim.pb ?_ | with_reducible refine Sim.ct ?_ | with_reducible refine Sim.cf ?_ | with_reducible refine Sim.ctb ?_ | with_reducible refine Sim.cfb ?_))
      (first | refine sim_cond (fun h => ?_) (fun h => ?_) | refine sim_condb (fun h => ?_) (fun h => ?_) | refine sim_condn (fun h => ?_) (fun h => ?_) | refine sim_condnb (fun h => ?_) (fun h => ?_) | refine sim_ite (fun h => ?_) (fun h => ?_)) -- r6
      · skip
        exact sim_outB _ rfl (by first | rfl | (simp only [Tok.kind] at *; simp_all))
      · skip
        (repeat (first | with_reducible refine Sim.assoc ?_ | with_reducible refine Sim.pb ?_ | with_reducible refine Sim.ct ?_ | with_reducible refine Sim.cf ?_ | with_reducible refine Sim.ctb ?_ | with_reducible refine Sim.cfb ?_))
        first | refine sim_op (take_m _ _) (fun _ h => nomatch h) fun r7 b => Sim.prop fun h => ?_ | refine sim_op1 (take_m _ _) (fun _ h => nomatch h) fun r7 b => Sim.prop fun h => ?_
        subst h
        (repeat (first | with_reducible refine Sim.assoc ?_ | with_reducible refine Sim.pb ?_ | with_reducible refine Sim.ct ?_ | with_reducible refine Sim.cf ?_ | with_reducible refine Sim.ctb ?_ | with_reducible refine Sim.cfb ?_))
        (first | refine sim_cond (fun h => ?_) (fun h => ?_) | refine sim_condb (fun h => ?_) (fun h => ?_) | refine sim_condn (fun h => ?_) (fun h => ?_) | refine sim_condnb (fun h => ?_) (fun h => ?_) | refine sim_ite (fun h => ?_) (fun h => ?_)) -- r7
        · skip
          exact sim_outB _ rfl (by first | rfl | (simp only [Tok.kind] at *; simp_all))
        · skip
          (repeat (first | with_reducible refine Sim.assoc ?_ | with_reducible refine Sim.pb ?_ | with_reducible refine Sim.ct ?_ | with_reducible refine Sim.cf ?_ | with_reducible refine Sim.ctb ?_ | with_reducible refine Sim.cfb ?_))
          first | refine sim_op (take_m _ _) (fun _ h => nomatch h) fun r8 b => Sim.prop fun h => ?_ | refine sim_op1 (take_m _ _) (fun _ h => nomatch h) fun r8 b => Sim.prop fun h => ?_
          subst h
          (repeat (first | with_reducible refine Sim.assoc ?_ | with_reducible refine Sim.pb ?_ | with_reducible refine Sim.ct ?_ | with_reducible refine Sim.cf ?_ | with_reducible refine Sim.ctb ?_ | with_reducible refine Sim.cfb ?_))
          (first | refine sim_cond (fun h => ?_) (fun h => ?_) | refine sim_condb (fun h => ?_) (fun h => ?_) | refine sim_condn (fun h => ?_) (fun h => ?_) | refine sim_condnb (fun h => ?_) (fun h => ?_) | refine sim_ite (fun h => ?_) (fun h => ?_)) -- r8
          · skip
            exact sim_outB _ rfl (by first | rfl | (simp only [Tok.kind] at *; simp_all))
          · skip
            (repeat (first | with_reducible refine Sim.assoc ?_ | with_reducible refine Sim.pb ?_ | with_reducible refine Sim.ct ?_ | with_reducible refine Sim.cf ?_ | with_reducible refine Sim.ctb ?_ | with_reducible refine Sim.cfb ?_))
            first | refine sim_op (take_m _ _) (fun _ h => nomatch h) fun r9 b => Sim.prop fun h => ?_ | refine sim_op1 (take_m _ _) (fun _ h => nomatch h) fun r9 b => Sim.prop fun h => ?_
            subst h
            (repeat (first | with_reducible refine Sim.assoc ?_ | with_reducible refine Sim.pb ?_ | with_reducible refine Sim.ct ?_ | with_reducible refine Sim.cf ?_ | with_reducible refine Sim.ctb ?_ | with_reducible refine Sim.cfb ?_))
            (first | refine sim_cond (fun h => ?_) (fun h => ?_) | refine sim_condb (fun h => ?_) (fun h => ?_) | refine sim_condn (fun h => ?_) (fun h => ?_) | refine sim_condnb (fun h => ?_) (fun h => ?_) | refine sim_ite (fun h => ?_) (fun h => ?_)) -- r9
            · skip
              exact sim_outB _ rfl (by first | rfl | (simp only [Tok.kind] at *; simp_all))
            · skip
              (repeat (first | with_reducible refine Sim.assoc ?_ | with_reducible refine Sim.pb ?_ | with_reducible refine Sim.ct ?_ | with_reducible refine Sim.cf ?_ | with_reducible refine Sim.ctb ?_ | with_reducible refine Sim.cfb ?_))
              first | refine sim_op (take_m _ _) (fun _ h => nomatch h) fun r10 b => Sim.prop fun h => ?_ | refine sim_op1 (take_m _ _) (fun _ h => nomatch h) fun r10 b => Sim.prop fun h => ?_
              subst h
              exact sim_outB _ rfl (by first | rfl | (simp only [Tok.kind] at *; simp_all))
    · skip
      (repeat (first | with_reducible refine Sim.assoc ?_ | with_reducible refine Sim.pb ?_ | with_reducible refine Sim.ct ?_ | with_reducible refine Sim.cf ?_ | with_reducible refine Sim.ctb ?_ | with_reducible refine Sim.cfb ?_))
      (first | refine sim_cond (fun h => ?_) (fun h => ?_) | refine sim_condb (fun h => ?_) (fun h => ?_) | refine sim_condn (fun h => ?_) (fun h => ?_) | refine sim_condnb (fun h => ?_) (fun h => ?_) | refine sim_ite (fun h => ?_) (fun h => ?_)) -- x11.1
      · skip
        first | refine sim_joinBb ?_ fun x18 => ?_ | refine sim_joinBc ?_ fun x18 => ?_
        · skip
          refine sim_kind (by repeat (first | exact List.mem_cons_self .. | apply List.mem_cons_of_mem)) ?_
          (repeat (first | with_reducible refine Sim.assoc ?_ | with_reducible refine Sim.pb ?_ | with_reducible refine Sim.ct ?_ | with_reducible refine Sim.cf ?_ | with_reducible refine Sim.ctb ?_ | with_reducible refine Sim.cfb ?_))
          refine sim_ite (fun h17 => ?_) (fun h17 => ?_)
          · skip
            refine sim_kind (by repeat (first | exact List.mem_cons_self .. | apply List.mem_cons_of_mem)) ?_
            (repeat (first | with_reducible refine Sim.assoc ?_ | with_reducible refine Sim.pb ?_ | with_reducible refine Sim.ct ?_ | with_reducible refine Sim.cf ?_ | with_reducible refine Sim.ctb ?_ | with_reducible refine Sim.cfb ?_))
            refine sim_ite (fun h29 => ?_) (fun h29 => ?_)
            · skip
              refine sim_kind (by repeat (first | exact List.mem_cons_self .. | apply List.mem_cons_of_mem)) ?_
              exact sim_outB _ rfl (by show cond (nr4.kind != 17 && nr4.kind != 29 && nr4.kind != 30) _ _ = _; rw [show (nr4.kind != 17) = true from h17, show (nr4.kind != 29) = true from h29]; rfl)
            · skip
              exact sim_outB _ rfl (by show cond (nr4.kind != 17 && nr4.kind != 29 && nr4.kind != 30) _ _ = _; rw [show (nr4.kind != 17) = true from h17, show (nr4.kind != 29) = false from h29]; rfl)
          · skip
            exact sim_outB _ rfl (by show cond (nr4.kind != 17 && nr4.kind != 29 && nr4.kind != 30) _ _ = _; rw [show (nr4.kind != 17) = false from h17]; rfl)
        · skip
          (repeat (first | with_reducible refine Sim.assoc ?_ | with_reducible refine Sim.pb ?_ | with_reducible refine Sim.ct ?_ | with_reducible refine Sim.cf ?_ | with_reducible refine Sim.ctb ?_ | with_reducible refine Sim.cfb ?_))
          (first | refine sim_cond (fun h => ?_) (fun h => ?_) | refine sim_condb (fun h => ?_) (fun h => ?_) | refine sim_condn (fun h => ?_) (fun h => ?_) | refine sim_condnb (fun h => ?_) (fun h => ?_) | refine sim_ite (fun h => ?_) (fun h => ?_)) -- x18.1
          · skip
            exact sim_fails (β1 := Unit) (Rel1 := fun _ _ _ => Fact.prop True) (fail_m _) (fun _ h => nomatch h) (by first | exact errs_fail | exact errs_failb _)
          · skip
            (repeat (first | with_reducible refine Sim.assoc ?_ | with_reducible refine Sim.pb ?_ | with_reducible refine Sim.ct ?_ | with_reducible refine Sim.cf ?_ | with_reducible refine Sim.ctb ?_ | with_reducible refine Sim.cfb ?_))
            first | refine sim_op (hR.expr _) (fun _ h => nomatch h) fun r23 nr23 => ?_ | refine sim_op1 (hR.expr _) (fun _ h => nomatch h) fun r23 nr23 => ?_
            refine sim_node [r4, r23] [nr4, nr23] rfl (by decide) (by decide) (by kernel_rfl) (fun F hF => (.cons _ _ _ _ (hF (NodeF nr4 r4) (by repeat (first | exact List.mem_cons_self .. | apply List.mem_cons_of_mem))) (.cons _ _ _ _ (hF (NodeF nr23 r23) (by repeat (first | exact List.mem_cons_self .. | apply List.mem_cons_of_mem))) .nil))) fun r25 => ?_
            (repeat (first | with_reducible refine Sim.assoc ?_ | with_reducible refine Sim.pb ?_ | with_reducible refine Sim.ct ?_ | with_reducible refine Sim.cf ?_ | with_reducible refine Sim.ctb ?_ | with_reducible refine Sim.cfb ?_))
            exact sim_ret1 (t := tP) _ rfl (fun F hF => hF _ (by repeat (first | exact List.mem_cons_self .. | apply List.mem_cons_of_mem)))
      · skip
        (repeat (first | with_reducible refine Sim.assoc ?_ | with_reducible refine Sim.pb ?_ | with_reducible refine Sim.ct ?_ | with_reducible refine Sim.cf ?_ | with_reducible refine Sim.ctb ?_ | with_reducible refine Sim.cfb ?_))
        exact sim_ret1 (t := tP) _ rfl (fun F hF => hF _ (by repeat (first | exact List.mem_cons_self .. | apply List.mem_cons_of_mem)))
end Go.Proofs.YtjlgcpgjdgeejaaGreatDoor
end

/- The trees of functions of the program, each with the proof that it is the tree of the translated code. Conditions: none. By program. -/
section
namespace Go.Proofs.YtjlgcpgjdgeejaaGreatDoor
open Go
set_option linter.unusedVariables false
set_option maxRecDepth 100000
noncomputable section
def an_parser_block : An :=
  .s (.r [none]) (.s (.r [none, some (.c (.agg [.int .i64, .str, .int .i64, .int .i64])), none, some tP, none]) (.s (.r [none, some tU]) (.s (.j [] (.b (.l [] (.s (.s (.r [none, some tB, none]) (.c (.x) (.x))) (.b (.d (.q 0 none (.q 1 none (.q 2 (some tA) (.q 3 none (.q 4 (some tSl) (.q 5 none (.l 6 (some tP) (.l 7 (some tSl) (.l 8 (some tSl) (.q 9 (some tA) (.q 10 none (.l 11 (some tU) (.e))))))))))))))))))) (.s (.r [none, some tU]) (.s (.r [none, none]) (.x))))))
def t_parser_block (a0_p : Addr) : T :=
  .op (callS F_parser_now #[.pointer (some a0_p)]) (.c (.agg [.int .i64, .str, .int .i64, .int .i64])) fun r1 =>
  .op (callS F_syntax_made #[.int .i64 63, .string kE, .int .i64 0, .int .i64 r1.2.2.1, .slice none 0 0]) tP fun r2 =>
  .op (callS F_parser_must #[.pointer (some a0_p), .string k_lc]) tU fun _ =>
  .join 0 [] (
    .loop 1 [] [] fun x4 =>
      .op (callS F_parser_is #[.pointer (some a0_p), .string k_rc]) tB fun r5 =>
      .ite (!r5) (
        .draw <|
        .opq (nilS (.pointer r2)) tA fun r6 =>
        .opq (ldS T_SPsyntax_node (.pointer (some ⟨r6.block, r6.off + 5, none⟩))) tSl fun r7 =>
        .opl (callS F_parser_statement #[.pointer (some a0_p)]) tP fun r8 =>
        .opl (sliceS T_SPsyntax_node 1 #[(0, .pointer r8)]) tSl fun r9 =>
        .opl (appS #[T_SPsyntax_node, T_SPsyntax_node] T_SPsyntax_node #[.slice r7.1 r7.2.1 r7.2.2, .slice r9.1 r9.2.1 r9.2.2]) tSl fun r10 =>
        .opq (nilS (.pointer r2)) tA fun r11 =>
        .op (stS T_SPsyntax_node (.pointer (some ⟨r11.block, r11.off + 5, none⟩)) (.slice r10.1 r10.2.1 r10.2.2)) tU fun _ =>
        .out 1 []) (
        .out 0 [])) fun x13 =>
  .op (callS F_parser_must #[.pointer (some a0_p), .string k_rc]) tU fun _ =>
  .ret #[.v (.pointer r2)]
theorem d_parser_block (a0_p : Addr) : fnT Tryz.prog Tryz.f133 an_parser_block [.pointer (some a0_p)] = t_parser_block a0_p := by kernel_rfl
theorem c_parser_block {ε σ β : Type} {I : Ifc ε σ} {t : Ty} {s : Sp ε σ β} {Rel : β → t.den → Own → Fact} {Γ : List Fact} (a0_p : Addr) (h : Sim Tryz.prog I t Rel noLabel none (t_parser_block a0_p) s [] Γ) : MeetsO Tryz.prog I (callS F_parser_block #[.pointer (some a0_p)]) t s Rel Γ :=
  meets_of_sim (args := [.pointer (some a0_p)]) Tryz.func133 rfl rfl (Nat.le_of_ble_eq_true rfl) (by rw [d_parser_block]; exact h)

def an_parser_round : An :=
  .s (.r [none]) (.s (.r [none, some tU]) (.s (.r [none, some tP, none]) (.s (.r [none, some tU]) (.s (.r [none, none]) (.x)))))
def t_parser_round (a0_p : Addr) : T :=
  .op (callS F_parser_must #[.pointer (some a0_p), .string k_lp]) tU fun _ =>
  .op (callS F_parser_expr #[.pointer (some a0_p)]) tP fun r2 =>
  .op (callS F_parser_must #[.pointer (some a0_p), .string k_rp]) tU fun _ =>
  .ret #[.v (.pointer r2)]
theorem d_parser_round (a0_p : Addr) : fnT Tryz.prog Tryz.f136 an_parser_round [.pointer (some a0_p)] = t_parser_round a0_p := by kernel_rfl
theorem c_parser_round {ε σ β : Type} {I : Ifc ε σ} {t : Ty} {s : Sp ε σ β} {Rel : β → t.den → Own → Fact} {Γ : List Fact} (a0_p : Addr) (h : Sim Tryz.prog I t Rel noLabel none (t_parser_round a0_p) s [] Γ) : MeetsO Tryz.prog I (callS F_parser_round #[.pointer (some a0_p)]) t s Rel Γ :=
  meets_of_sim (args := [.pointer (some a0_p)]) Tryz.func136 rfl rfl (Nat.le_of_ble_eq_true rfl) (by rw [d_parser_round]; exact h)

def an_parser_ended : An :=
  .s (.r [none]) (.s (.r [none, some tP, none]) (.s (.s (.j [(18, .b .bool)] (.r [none, none, none, none, some tB, none, none])) (.c (.r [none, some tP, none]) (.x))) (.s (.r [none, some tU]) (.s (.r [none, none, none, some tSl, some tP, none]) (.x)))))
def t_parser_ended (a0_p : Addr) (a1_kind : Int) (a2_at : Int) (a3_may : Bool) : T :=
  .op (callS F_parser_none #[.pointer (some a0_p)]) tP fun r1 =>
  .join 0 [.b .bool] (
    .ite (!a3_may) (
      .out 0 [.bool true]) (
      .op (callS F_parser_is #[.pointer (some a0_p), .string k_semi]) tB fun r2 =>
      .out 0 [.bool (!r2)])) fun x3 =>
  .ite x3.1 (
    .op (callS F_parser_expr #[.pointer (some a0_p)]) tP fun r4 =>
    .op (callS F_parser_must #[.pointer (some a0_p), .string k_semi]) tU fun _ =>
    .op (sliceS T_SPsyntax_node 1 #[(0, .pointer r4)]) tSl fun r6 =>
    .op (callS F_syntax_made #[.int .i64 a1_kind, .string kE, .int .i64 0, .int .i64 a2_at, .slice r6.1 r6.2.1 r6.2.2]) tP fun r7 =>
    .ret #[.v (.pointer r7)]) (
    .op (callS F_parser_must #[.pointer (some a0_p), .string k_semi]) tU fun _ =>
    .op (sliceS T_SPsyntax_node 1 #[(0, .pointer r1)]) tSl fun r9 =>
    .op (callS F_syntax_made #[.int .i64 a1_kind, .string kE, .int .i64 0, .int .i64 a2_at, .slice r9.1 r9.2.1 r9.2.2]) tP fun r10 =>
    .ret #[.v (.pointer r10)])
theorem d_parser_ended (a0_p : Addr) (a1_kind : Int) (a2_at : Int) (a3_may : Bool) : fnT Tryz.prog Tryz.f138 an_parser_ended [.pointer (some a0_p), .int .i64 a1_kind, .int .i64 a2_at, .bool a3_may] = t_parser_ended a0_p a1_kind a2_at a3_may := by kernel_rfl
theorem c_parser_ended {ε σ β : Type} {I : Ifc ε σ} {t : Ty} {s : Sp ε σ β} {Rel : β → t.den → Own → Fact} {Γ : List Fact} (a0_p : Addr) (a1_kind : Int) (a2_at : Int) (a3_may : Bool) (h : Sim Tryz.prog I t Rel noLabel none (t_parser_ended a0_p a1_kind a2_at a3_may) s [] Γ) : MeetsO Tryz.prog I (callS F_parser_ended #[.pointer (some a0_p), .int .i64 a1_kind, .int .i64 a2_at, .bool a3_may]) t s Rel Γ :=
  meets_of_sim (args := [.pointer (some a0_p), .int .i64 a1_kind, .int .i64 a2_at, .bool a3_may]) Tryz.func138 rfl rfl (Nat.le_of_ble_eq_true rfl) (by rw [d_parser_ended]; exact h)

def an_parser_statement : An :=
  .s (.r [none]) (.s (.r [none, some (.c (.agg [.int .i64, .str, .int .i64, .int .i64])), some tA, some tU]) (.s (.s (.r [none, some tI, none]) (.j [] (.c (.s (.r [none, some (.c (.agg [.int .i64, .str, .int .i64, .int .i64])), some tP, none]) (.s (.r [none, some tB]) (.c (.s (.r [none, none]) (.x)) (.x)))) (.x)))) (.s (.b (.s (.r [none, some tB, none]) (.c (.s (.r [none, some tP, none]) (.x)) (.s (.r [none, some tB, none]) (.c (.s (.r [none, some tI, some tP, none]) (.x)) (.s (.r [none, some tB, none]) (.c (.s (.r [none, some tP, none]) (.x)) (.s (.r [none, some tB, none]) (.c (.s (.r [none, some tP, none]) (.s (.d (.q 0 none (.q 1 (some tI) (.q 2 none (.q 3 none (.l 4 (some tP) (.l 5 (some tSl) (.l 6 (some tP) (.q 7 none (.e)))))))))) (.x))) (.s (.r [none, some tB, none]) (.c (.s (.r [none, none, some tI, some tP, none]) (.x)) (.s (.r [none, some tB, none]) (.c (.s (.r [none, none, some tI, some tP, none]) (.x)) (.s (.r [none, some tB, none]) (.c (.s (.r [none, none, some tI, some tP, none]) (.x)) (.s (.r [none, some tB, none]) (.c (.s (.r [none, some tU]) (.s (.r [none, some tI, some tP, none]) (.x))) (.s (.r [none, some tB, none]) (.c (.s (.r [none, some tU]) (.s (.r [none, some tI, some tP, none]) (.x))) (.s (.r [none, some tB, none]) (.c (.s (.r [none, none, some tI, some tP, none]) (.x)) (.x)))))))))))))))))))))) (.s (.r [none, none, some tI, some tP, none]) (.x)))))
def t_parser_statement (a0_a0 : Addr) : T :=
  .op (callS F_parser_now #[.pointer (some a0_a0)]) (.c (.agg [.int .i64, .str, .int .i64, .int .i64])) fun r1 =>
  .op (allocS T_api_Token) tA fun r2 =>
  .op (stS T_api_Token (.pointer (some r2)) (.agg #[.int .i64 r1.1, .string r1.2.1, .int .i64 r1.2.2.1, .int .i64 r1.2.2.2.1])) tU fun _ =>
  .op (ldS T_int (.pointer (some r2))) tI fun r4 =>
  .join 0 [] (
    .ite ((r4 : Int) == 2) (
      .op (ldS T_api_Token (.pointer (some r2))) (.c (.agg [.int .i64, .str, .int .i64, .int .i64])) fun r5 =>
      .op (callS F_parser_declaration #[.pointer (some a0_a0), .agg #[.int .i64 r5.1, .string r5.2.1, .int .i64 r5.2.2.1, .int .i64 r5.2.2.2.1]]) tP fun r6 =>
      .op (binS .neq T_Psyntax_node (.pointer r6) (.pointer none)) tB fun r7 =>
      .ite r7 (
        .ret #[.v (.pointer r6)]) (
        .out 0 [])) (
      .out 0 [])) fun x8 =>
  .op (callS F_parser_is #[.pointer (some a0_a0), .string k_lc]) tB fun r9 =>
  .ite r9 (
    .op (callS F_parser_block #[.pointer (some a0_a0)]) tP fun r10 =>
    .ret #[.v (.pointer r10)]) (
    .op (callS F_parser_take #[.pointer (some a0_a0), .string k_semi]) tB fun r11 =>
    .ite r11 (
      .op (ldS T_int (.pointer (some ⟨r2.block, r2.off + 2, none⟩))) tI fun r12 =>
      .op (callS F_syntax_made #[.int .i64 65, .string kE, .int .i64 0, .int .i64 r12, .slice none 0 0]) tP fun r13 =>
      .ret #[.v (.pointer r13)]) (
      .op (callS F_parser_is #[.pointer (some a0_a0), .string kif]) tB fun r14 =>
      .ite r14 (
        .op (callS F_parser_branch #[.pointer (some a0_a0)]) tP fun r15 =>
        .ret #[.v (.pointer r15)]) (
        .op (callS F_parser_take #[.pointer (some a0_a0), .string kwhile]) tB fun r16 =>
        .ite r16 (
          .op (callS F_parser_round #[.pointer (some a0_a0)]) tP fun r17 =>
          .draw <|
          .opq (ldS T_int (.pointer (some ⟨r2.block, r2.off + 2, none⟩))) tI fun r18 =>
          .opl (callS F_parser_block #[.pointer (some a0_a0)]) tP fun r19 =>
          .opl (sliceS T_SPsyntax_node 2 #[(0, .pointer r17), (1, .pointer r19)]) tSl fun r20 =>
          .opl (callS F_syntax_made #[.int .i64 54, .string kE, .int .i64 0, .int .i64 r18, .slice r20.1 r20.2.1 r20.2.2]) tP fun r21 =>
          .ret #[.v (.pointer r21)]) (
          .op (callS F_parser_take #[.pointer (some a0_a0), .string kfor]) tB fun r22 =>
          .ite r22 (
            .op (ldS T_int (.pointer (some ⟨r2.block, r2.off + 2, none⟩))) tI fun r23 =>
            .op (callS F_parser_loop #[.pointer (some a0_a0), .int .i64 r23]) tP fun r24 =>
            .ret #[.v (.pointer r24)]) (
            .op (callS F_parser_take #[.pointer (some a0_a0), .string kreturn]) tB fun r25 =>
            .ite r25 (
              .op (ldS T_int (.pointer (some ⟨r2.block, r2.off + 2, none⟩))) tI fun r26 =>
              .op (callS F_parser_ended #[.pointer (some a0_a0), .int .i64 57, .int .i64 r26, .bool true]) tP fun r27 =>
              .ret #[.v (.pointer r27)]) (
              .op (callS F_parser_take #[.pointer (some a0_a0), .string kthrow]) tB fun r28 =>
              .ite r28 (
                .op (ldS T_int (.pointer (some ⟨r2.block, r2.off + 2, none⟩))) tI fun r29 =>
                .op (callS F_parser_ended #[.pointer (some a0_a0), .int .i64 60, .int .i64 r29, .bool false]) tP fun r30 =>
                .ret #[.v (.pointer r30)]) (
                .op (callS F_parser_take #[.pointer (some a0_a0), .string kbreak]) tB fun r31 =>
                .ite r31 (
                  .op (callS F_parser_must #[.pointer (some a0_a0), .string k_semi]) tU fun _ =>
                  .op (ldS T_int (.pointer (some ⟨r2.block, r2.off + 2, none⟩))) tI fun r33 =>
                  .op (callS F_syntax_made #[.int .i64 58, .string kE, .int .i64 0, .int .i64 r33, .slice none 0 0]) tP fun r34 =>
                  .ret #[.v (.pointer r34)]) (
                  .op (callS F_parser_take #[.pointer (some a0_a0), .string kcontinue]) tB fun r35 =>
                  .ite r35 (
                    .op (callS F_parser_must #[.pointer (some a0_a0), .string k_semi]) tU fun _ =>
                    .op (ldS T_int (.pointer (some ⟨r2.block, r2.off + 2, none⟩))) tI fun r37 =>
                    .op (callS F_syntax_made #[.int .i64 59, .string kE, .int .i64 0, .int .i64 r37, .slice none 0 0]) tP fun r38 =>
                    .ret #[.v (.pointer r38)]) (
                    .op (callS F_parser_take #[.pointer (some a0_a0), .string ktry]) tB fun r39 =>
                    .ite r39 (
                      .op (ldS T_int (.pointer (some ⟨r2.block, r2.off + 2, none⟩))) tI fun r40 =>
                      .op (callS F_parser_try #[.pointer (some a0_a0), .int .i64 r40]) tP fun r41 =>
                      .ret #[.v (.pointer r41)]) (
                      .op (ldS T_int (.pointer (some ⟨r2.block, r2.off + 2, none⟩))) tI fun r42 =>
                      .op (callS F_parser_ended #[.pointer (some a0_a0), .int .i64 64, .int .i64 r42, .bool false]) tP fun r43 =>
                      .ret #[.v (.pointer r43)]))))))))))
theorem d_parser_statement (a0_a0 : Addr) : fnT Tryz.prog Tryz.f86 an_parser_statement [.pointer (some a0_a0)] = t_parser_statement a0_a0 := by kernel_rfl
theorem c_parser_statement {ε σ β : Type} {I : Ifc ε σ} {t : Ty} {s : Sp ε σ β} {Rel : β → t.den → Own → Fact} {Γ : List Fact} (a0_a0 : Addr) (h : Sim Tryz.prog I t Rel noLabel none (t_parser_statement a0_a0) s [] Γ) : MeetsO Tryz.prog I (callS F_parser_statement #[.pointer (some a0_a0)]) t s Rel Γ :=
  meets_of_sim (args := [.pointer (some a0_a0)]) Tryz.func86 rfl rfl (Nat.le_of_ble_eq_true rfl) (by rw [d_parser_statement]; exact h)

def an_parser_branch : An :=
  .s (.r [none]) (.s (.r [none, some (.c (.agg [.int .i64, .str, .int .i64, .int .i64])), none, none]) (.s (.r [none, some tU]) (.s (.r [none, some tP, none]) (.s (.r [none, some tP, none]) (.s (.r [none, some tP, none]) (.s (.s (.r [none, some tB]) (.c (.s (.r [none, some tB]) (.c (.r [none, some tP, none]) (.r [none, some tP, none]))) (.x))) (.s (.r [none, none, none, none, some tSl, some tP, none]) (.x))))))))
def t_parser_branch (a0_p : Addr) : T :=
  .op (callS F_parser_now #[.pointer (some a0_p)]) (.c (.agg [.int .i64, .str, .int .i64, .int .i64])) fun r1 =>
  .op (callS F_parser_must #[.pointer (some a0_p), .string kif]) tU fun _ =>
  .op (callS F_parser_round #[.pointer (some a0_p)]) tP fun r3 =>
  .op (callS F_parser_block #[.pointer (some a0_p)]) tP fun r4 =>
  .op (callS F_parser_none #[.pointer (some a0_p)]) tP fun r5 =>
  .op (callS F_parser_take #[.pointer (some a0_p), .string kelse]) tB fun r6 =>
  .ite r6 (
    .op (callS F_parser_is #[.pointer (some a0_p), .string kif]) tB fun r7 =>
    .ite r7 (
      .op (callS F_parser_branch #[.pointer (some a0_p)]) tP fun r8 =>
      .op (sliceS T_SPsyntax_node 3 #[(0, .pointer r3), (1, .pointer r4), (2, .pointer r8)]) tSl fun r9 =>
      .op (callS F_syntax_made #[.int .i64 53, .string kE, .int .i64 0, .int .i64 r1.2.2.1, .slice r9.1 r9.2.1 r9.2.2]) tP fun r10 =>
      .ret #[.v (.pointer r10)]) (
      .op (callS F_parser_block #[.pointer (some a0_p)]) tP fun r11 =>
      .op (sliceS T_SPsyntax_node 3 #[(0, .pointer r3), (1, .pointer r4), (2, .pointer r11)]) tSl fun r12 =>
      .op (callS F_syntax_made #[.int .i64 53, .string kE, .int .i64 0, .int .i64 r1.2.2.1, .slice r12.1 r12.2.1 r12.2.2]) tP fun r13 =>
      .ret #[.v (.pointer r13)])) (
    .op (sliceS T_SPsyntax_node 3 #[(0, .pointer r3), (1, .pointer r4), (2, .pointer r5)]) tSl fun r14 =>
    .op (callS F_syntax_made #[.int .i64 53, .string kE, .int .i64 0, .int .i64 r1.2.2.1, .slice r14.1 r14.2.1 r14.2.2]) tP fun r15 =>
    .ret #[.v (.pointer r15)])
theorem d_parser_branch (a0_p : Addr) : fnT Tryz.prog Tryz.f135 an_parser_branch [.pointer (some a0_p)] = t_parser_branch a0_p := by kernel_rfl
theorem c_parser_branch {ε σ β : Type} {I : Ifc ε σ} {t : Ty} {s : Sp ε σ β} {Rel : β → t.den → Own → Fact} {Γ : List Fact} (a0_p : Addr) (h : Sim Tryz.prog I t Rel noLabel none (t_parser_branch a0_p) s [] Γ) : MeetsO Tryz.prog I (callS F_parser_branch #[.pointer (some a0_p)]) t s Rel Γ :=
  meets_of_sim (args := [.pointer (some a0_p)]) Tryz.func135 rfl rfl (Nat.le_of_ble_eq_true rfl) (by rw [d_parser_branch]; exact h)

def an_parser_loop : An :=
  .s (.r [some tA, none]) (.s (.r [some tP, some tU]) (.s (.s (.j [(31, .b .bool)] (.r [some tP, some tB, none, some tP, some tB, none, none, some tP, some (.c (.agg [.int .i64, .str, .int .i64, .int .i64])), none, none, none, none, some tP, some (.c (.agg [.int .i64, .str, .int .i64, .int .i64])), some tB, none])) (.c (.s (.r [none]) (.s (.s (.r [some tP, some (.c (.agg [.int .i64, .str, .int .i64, .int .i64])), none, none]) (.j [(5, .b (.int .i64))] (.c (.r [none]) (.x)))) (.s (.r [some tP, some tS, none]) (.s (.r [some tP, some tU]) (.s (.r [some tP, some tP, none]) (.s (.r [some tP, some tU]) (.s (.r [none, none, none, none, some tP, some tP, some tSl, some tP, none]) (.x)))))))) (.x))) (.s (.r [some tP, some tP, none]) (.s (.s (.r [some tP, some (.c (.agg [.int .i64, .str, .int .i64, .int .i64])), none, none]) (.s (.r [some tP, some tB]) (.j [(8, .b .ptr)] (.c (.r [some tP, none, some tP, none]) (.x))))) (.s (.r [some tP, some tU]) (.s (.r [none, none]) (.s (.r [none, some tP, none]) (.s (.r [none, some tP, none]) (.s (.r [none, none, none, none, some tP, some tP, some tSl, some tP, none]) (.x))))))))))
def t_parser_loop (a0_a0 : Addr) (a1_a1 : Int) : T :=
  .op (boxS T_Psyntax_parser (.pointer (some a0_a0))) tA fun r1 =>
  .op (ldS T_Psyntax_parser (.pointer (some r1))) tP fun r2 =>
  .op (callS F_parser_must #[.pointer r2, .string k_lp]) tU fun _ =>
  .join 0 [.b .bool] (
    .op (ldS T_Psyntax_parser (.pointer (some r1))) tP fun r4 =>
    .op (callS F_parser_is #[.pointer r4, .string klet]) tB fun r5 =>
    .ite r5 (
      .op (ldS T_Psyntax_parser (.pointer (some r1))) tP fun r6 =>
      .op (callS F_parser_then #[.pointer r6, .int .i64 1]) (.c (.agg [.int .i64, .str, .int .i64, .int .i64])) fun r7 =>
      .ite ((r7.1 : Int) == 1) (
        .op (ldS T_Psyntax_parser (.pointer (some r1))) tP fun r8 =>
        .op (callS F_parser_then #[.pointer r8, .int .i64 2]) (.c (.agg [.int .i64, .str, .int .i64, .int .i64])) fun r9 =>
        .op (callS F_syntax_says #[.agg #[.int .i64 r9.1, .string r9.2.1, .int .i64 r9.2.2.1, .int .i64 r9.2.2.2.1], .string kof]) tB fun r10 =>
        .out 0 [.bool r10]) (
        .out 0 [.bool false])) (
      .op (ldS T_Psyntax_parser (.pointer (some r1))) tP fun r11 =>
      .op (callS F_parser_is #[.pointer r11, .string kconst]) tB fun r12 =>
      .ite r12 (
        .op (ldS T_Psyntax_parser (.pointer (some r1))) tP fun r13 =>
        .op (callS F_parser_then #[.pointer r13, .int .i64 1]) (.c (.agg [.int .i64, .str, .int .i64, .int .i64])) fun r14 =>
        .ite ((r14.1 : Int) == 1) (
          .op (ldS T_Psyntax_parser (.pointer (some r1))) tP fun r15 =>
          .op (callS F_parser_then #[.pointer r15, .int .i64 2]) (.c (.agg [.int .i64, .str, .int .i64, .int .i64])) fun r16 =>
          .op (callS F_syntax_says #[.agg #[.int .i64 r16.1, .string r16.2.1, .int .i64 r16.2.2.1, .int .i64 r16.2.2.2.1], .string kof]) tB fun r17 =>
          .out 0 [.bool r17]) (
          .out 0 [.bool false])) (
        .out 0 [.bool false]))) fun x18 =>
  .ite x18.1 (
    .op (ldS T_Psyntax_parser (.pointer (some r1))) tP fun r19 =>
    .op (callS F_parser_next #[.pointer r19]) (.c (.agg [.int .i64, .str, .int .i64, .int .i64])) fun r20 =>
    .join 0 [.b (.int .i64)] (
      .ite (r20.2.1.toList == kconst.toList) (
        .out 0 [.int .i64 1]) (
        .out 0 [.int .i64 0])) fun x21 =>
    .op (ldS T_Psyntax_parser (.pointer (some r1))) tP fun r22 =>
    .op (callS F_parser_name #[.pointer r22]) tS fun r23 =>
    .op (ldS T_Psyntax_parser (.pointer (some r1))) tP fun r24 =>
    .op (callS F_parser_must #[.pointer r24, .string kof]) tU fun _ =>
    .op (ldS T_Psyntax_parser (.pointer (some r1))) tP fun r26 =>
    .op (callS F_parser_expr #[.pointer r26]) tP fun r27 =>
    .op (ldS T_Psyntax_parser (.pointer (some r1))) tP fun r28 =>
    .op (callS F_parser_must #[.pointer r28, .string k_rp]) tU fun _ =>
    .op (ldS T_Psyntax_parser (.pointer (some r1))) tP fun r30 =>
    .op (callS F_parser_block #[.pointer r30]) tP fun r31 =>
    .op (sliceS T_SPsyntax_node 2 #[(0, .pointer r27), (1, .pointer r31)]) tSl fun r32 =>
    .op (callS F_syntax_made #[.int .i64 56, .string r23, .int .i64 x21.1, .int .i64 a1_a1, .slice r32.1 r32.2.1 r32.2.2]) tP fun r33 =>
    .ret #[.v (.pointer r33)]) (
    .op (ldS T_Psyntax_parser (.pointer (some r1))) tP fun r34 =>
    .op (callS F_parser_none #[.pointer r34]) tP fun r35 =>
    .op (ldS T_Psyntax_parser (.pointer (some r1))) tP fun r36 =>
    .op (callS F_parser_now #[.pointer r36]) (.c (.agg [.int .i64, .str, .int .i64, .int .i64])) fun r37 =>
    .op (ldS T_Psyntax_parser (.pointer (some r1))) tP fun r38 =>
    .op (callS F_parser_take #[.pointer r38, .string klet]) tB fun r39 =>
    .join 0 [.b .ptr] (
      .ite r39 (
        .op (ldS T_Psyntax_parser (.pointer (some r1))) tP fun r40 =>
        .op (callS F_parser_variable #[.pointer r40, .int .i64 0, .int .i64 r37.2.2.1]) tP fun r41 =>
        .out 0 [.pointer r41]) (
        .out 0 [.pointer r35])) fun x42 =>
    .op (ldS T_Psyntax_parser (.pointer (some r1))) tP fun r43 =>
    .op (callS F_parser_must #[.pointer r43, .string k_semi]) tU fun _ =>
    .op (callvS (.func (.func F_parser_loop_1) #[] #[.pointer (some r1)]) #[.string k_semi]) tP fun r45 =>
    .op (callvS (.func (.func F_parser_loop_1) #[] #[.pointer (some r1)]) #[.string k_rp]) tP fun r46 =>
    .op (ldS T_Psyntax_parser (.pointer (some r1))) tP fun r47 =>
    .op (callS F_parser_block #[.pointer r47]) tP fun r48 =>
    .op (sliceS T_SPsyntax_node 4 #[(0, .pointer x42.1), (1, .pointer r45), (2, .pointer r46), (3, .pointer r48)]) tSl fun r49 =>
    .op (callS F_syntax_made #[.int .i64 55, .string kE, .int .i64 0, .int .i64 a1_a1, .slice r49.1 r49.2.1 r49.2.2]) tP fun r50 =>
    .ret #[.v (.pointer r50)])
theorem d_parser_loop (a0_a0 : Addr) (a1_a1 : Int) : fnT Tryz.prog Tryz.f137 an_parser_loop [.pointer (some a0_a0), .int .i64 a1_a1] = t_parser_loop a0_a0 a1_a1 := by kernel_rfl
theorem c_parser_loop {ε σ β : Type} {I : Ifc ε σ} {t : Ty} {s : Sp ε σ β} {Rel : β → t.den → Own → Fact} {Γ : List Fact} (a0_a0 : Addr) (a1_a1 : Int) (h : Sim Tryz.prog I t Rel noLabel none (t_parser_loop a0_a0 a1_a1) s [] Γ) : MeetsO Tryz.prog I (callS F_parser_loop #[.pointer (some a0_a0), .int .i64 a1_a1]) t s Rel Γ :=
  meets_of_sim (args := [.pointer (some a0_a0), .int .i64 a1_a1]) Tryz.func137 rfl rfl (Nat.le_of_ble_eq_true rfl) (by rw [d_parser_loop]; exact h)

def an_parser_loop_1 : An :=
  .s (.r [none]) (.s (.r [some tP, some tP, none]) (.s (.s (.r [some tP, none, some tB, none]) (.c (.r [some tP, some tP, none]) (.x))) (.s (.r [some tP, none, some tU]) (.s (.r [none, none]) (.x)))))
def t_parser_loop_1 (a0_end : ByteArray) (a1_a1 : Addr) : T :=
  .op (ldS T_Psyntax_parser (.pointer (some a1_a1))) tP fun r1 =>
  .op (callS F_parser_none #[.pointer r1]) tP fun r2 =>
  .op (ldS T_Psyntax_parser (.pointer (some a1_a1))) tP fun r3 =>
  .op (callS F_parser_is #[.pointer r3, .string a0_end]) tB fun r4 =>
  .ite (!r4) (
    .op (ldS T_Psyntax_parser (.pointer (some a1_a1))) tP fun r5 =>
    .op (callS F_parser_expr #[.pointer r5]) tP fun r6 =>
    .op (ldS T_Psyntax_parser (.pointer (some a1_a1))) tP fun r7 =>
    .op (callS F_parser_must #[.pointer r7, .string a0_end]) tU fun _ =>
    .ret #[.v (.pointer r6)]) (
    .op (ldS T_Psyntax_parser (.pointer (some a1_a1))) tP fun r9 =>
    .op (callS F_parser_must #[.pointer r9, .string a0_end]) tU fun _ =>
    .ret #[.v (.pointer r2)])
theorem d_parser_loop_1 (a0_end : ByteArray) (a1_a1 : Addr) : fnT Tryz.prog Tryz.f189 an_parser_loop_1 [.string a0_end, .pointer (some a1_a1)] = t_parser_loop_1 a0_end a1_a1 := by kernel_rfl
theorem c_parser_loop_1 {ε σ β : Type} {I : Ifc ε σ} {t : Ty} {s : Sp ε σ β} {Rel : β → t.den → Own → Fact} {Γ : List Fact} (a0_end : ByteArray) (a1_a1 : Addr) (h : Sim Tryz.prog I t Rel noLabel none (t_parser_loop_1 a0_end a1_a1) s [] Γ) : MeetsO Tryz.prog I (callS F_parser_loop_1 #[.string a0_end, .pointer (some a1_a1)]) t s Rel Γ :=
  meets_of_sim (args := [.string a0_end, .pointer (some a1_a1)]) Tryz.func189 rfl rfl (Nat.le_of_ble_eq_true rfl) (by rw [d_parser_loop_1]; exact h)

def an_parser_variable : An :=
  .s (.r [none]) (.s (.r [none, some tS, none]) (.s (.r [none, some tP, none]) (.s (.r [none, some tU]) (.s (.r [none, none, none, none, none, some tP, some tSl, some tP, none]) (.x)))))
def t_parser_variable (a0_p : Addr) (a1_n : Int) (a2_at : Int) : T :=
  .op (callS F_parser_name #[.pointer (some a0_p)]) tS fun r1 =>
  .op (callS F_parser_optional #[.pointer (some a0_p)]) tP fun r2 =>
  .op (callS F_parser_must #[.pointer (some a0_p), .string k_eq]) tU fun _ =>
  .op (callS F_parser_expr #[.pointer (some a0_p)]) tP fun r4 =>
  .op (sliceS T_SPsyntax_node 2 #[(0, .pointer r2), (1, .pointer r4)]) tSl fun r5 =>
  .op (callS F_syntax_made #[.int .i64 40, .string r1, .int .i64 a1_n, .int .i64 a2_at, .slice r5.1 r5.2.1 r5.2.2]) tP fun r6 =>
  .ret #[.v (.pointer r6)]
theorem d_parser_variable (a0_p : Addr) (a1_n : Int) (a2_at : Int) : fnT Tryz.prog Tryz.f180 an_parser_variable [.pointer (some a0_p), .int .i64 a1_n, .int .i64 a2_at] = t_parser_variable a0_p a1_n a2_at := by kernel_rfl
theorem c_parser_variable {ε σ β : Type} {I : Ifc ε σ} {t : Ty} {s : Sp ε σ β} {Rel : β → t.den → Own → Fact} {Γ : List Fact} (a0_p : Addr) (a1_n : Int) (a2_at : Int) (h : Sim Tryz.prog I t Rel noLabel none (t_parser_variable a0_p a1_n a2_at) s [] Γ) : MeetsO Tryz.prog I (callS F_parser_variable #[.pointer (some a0_p), .int .i64 a1_n, .int .i64 a2_at]) t s Rel Γ :=
  meets_of_sim (args := [.pointer (some a0_p), .int .i64 a1_n, .int .i64 a2_at]) Tryz.func180 rfl rfl (Nat.le_of_ble_eq_true rfl) (by rw [d_parser_variable]; exact h)

def an_parser_try : An :=
  .s (.r [none]) (.s (.r [none, some tP, none]) (.s (.r [none, some tP, none]) (.s (.s (.r [none, some (.c (.agg [.int .i64, .str, .int .i64, .int .i64])), none, none]) (.s (.r [none, some tB]) (.j [(6, .b .ptr)] (.c (.s (.r [none, some tU]) (.s (.r [none, some tS, none]) (.s (.r [none, some tU]) (.r [none, none, none, some tP, some tSl, some tP, none])))) (.x))))) (.s (.r [none, some tP, none]) (.s (.s (.r [none, some tB]) (.j [(9, .b .ptr)] (.c (.r [none, some tP, none]) (.x)))) (.s (.s (.j [(50, .b .bool)] (.r [none, some tA, none, none, some tI, none, none, none, some tA, none, none, some tI, none, none])) (.c (.r [none, some tU]) (.x))) (.s (.r [none, none, none, none, some tSl, some tP, none]) (.x))))))))
def t_parser_try (a0_p : Addr) (a1_at : Int) : T :=
  .op (callS F_parser_block #[.pointer (some a0_p)]) tP fun r1 =>
  .op (callS F_parser_none #[.pointer (some a0_p)]) tP fun r2 =>
  .op (callS F_parser_now #[.pointer (some a0_p)]) (.c (.agg [.int .i64, .str, .int .i64, .int .i64])) fun r3 =>
  .op (callS F_parser_take #[.pointer (some a0_p), .string kcatch]) tB fun r4 =>
  .join 0 [.b .ptr] (
    .ite r4 (
      .op (callS F_parser_must #[.pointer (some a0_p), .string k_lp]) tU fun _ =>
      .op (callS F_parser_name #[.pointer (some a0_p)]) tS fun r6 =>
      .op (callS F_parser_must #[.pointer (some a0_p), .string k_rp]) tU fun _ =>
      .op (callS F_parser_block #[.pointer (some a0_p)]) tP fun r8 =>
      .op (sliceS T_SPsyntax_node 1 #[(0, .pointer r8)]) tSl fun r9 =>
      .op (callS F_syntax_made #[.int .i64 62, .string r6, .int .i64 0, .int .i64 r3.2.2.1, .slice r9.1 r9.2.1 r9.2.2]) tP fun r10 =>
      .out 0 [.pointer r10]) (
      .out 0 [.pointer r2])) fun x11 =>
  .op (callS F_parser_none #[.pointer (some a0_p)]) tP fun r12 =>
  .op (callS F_parser_take #[.pointer (some a0_p), .string kfinally]) tB fun r13 =>
  .join 0 [.b .ptr] (
    .ite r13 (
      .op (callS F_parser_block #[.pointer (some a0_p)]) tP fun r14 =>
      .out 0 [.pointer r14]) (
      .out 0 [.pointer r12])) fun x15 =>
  .join 0 [.b .bool] (
    .op (nilS (.pointer x11.1)) tA fun r16 =>
    .op (ldS T_int (.pointer (some r16))) tI fun r17 =>
    .ite ((r17 : Int) == 1) (
      .op (nilS (.pointer x15.1)) tA fun r18 =>
      .op (ldS T_int (.pointer (some r18))) tI fun r19 =>
      .out 0 [.bool ((r19 : Int) == 1)]) (
      .out 0 [.bool false])) fun x20 =>
  .ite x20.1 (
    .op (callS F_parser_fail #[.pointer (some a0_p)]) tU fun _ =>
    .op (sliceS T_SPsyntax_node 3 #[(0, .pointer r1), (1, .pointer x11.1), (2, .pointer x15.1)]) tSl fun r22 =>
    .op (callS F_syntax_made #[.int .i64 61, .string kE, .int .i64 0, .int .i64 a1_at, .slice r22.1 r22.2.1 r22.2.2]) tP fun r23 =>
    .ret #[.v (.pointer r23)]) (
    .op (sliceS T_SPsyntax_node 3 #[(0, .pointer r1), (1, .pointer x11.1), (2, .pointer x15.1)]) tSl fun r24 =>
    .op (callS F_syntax_made #[.int .i64 61, .string kE, .int .i64 0, .int .i64 a1_at, .slice r24.1 r24.2.1 r24.2.2]) tP fun r25 =>
    .ret #[.v (.pointer r25)])
theorem d_parser_try (a0_p : Addr) (a1_at : Int) : fnT Tryz.prog Tryz.f140 an_parser_try [.pointer (some a0_p), .int .i64 a1_at] = t_parser_try a0_p a1_at := by kernel_rfl
theorem c_parser_try {ε σ β : Type} {I : Ifc ε σ} {t : Ty} {s : Sp ε σ β} {Rel : β → t.den → Own → Fact} {Γ : List Fact} (a0_p : Addr) (a1_at : Int) (h : Sim Tryz.prog I t Rel noLabel none (t_parser_try a0_p a1_at) s [] Γ) : MeetsO Tryz.prog I (callS F_parser_try #[.pointer (some a0_p), .int .i64 a1_at]) t s Rel Γ :=
  meets_of_sim (args := [.pointer (some a0_p), .int .i64 a1_at]) Tryz.func140 rfl rfl (Nat.le_of_ble_eq_true rfl) (by rw [d_parser_try]; exact h)

def an_parser_declaration : An :=
  .s (.r [some tA, none]) (.s (.b (.s (.j [(13, .b .bool)] (.r [none, some tB, none, none, some (.c (.agg [.int .i64, .str, .int .i64, .int .i64])), some tB, none, none])) (.c (.s (.r [none, some (.c (.agg [.int .i64, .str, .int .i64, .int .i64]))]) (.s (.r [none, none, some tI, some tP, none]) (.x))) (.s (.r [none, some tB, none]) (.c (.s (.r [none, none, some tI, some tP, none]) (.s (.r [none, some tU]) (.s (.r [none, none]) (.x)))) (.s (.r [none, some tB, none]) (.c (.s (.r [none, none, some tI, some tP, none]) (.s (.r [none, some tU]) (.s (.r [none, none]) (.x)))) (.s (.r [none, some tB, none]) (.c (.s (.r [none, none, some tI, some tP, none]) (.x)) (.s (.r [none, some tB, none]) (.c (.s (.r [none, none, some tI, some tP, none]) (.x)) (.s (.r [none, some tB, none]) (.c (.s (.r [none, none, some tI, some tP, none]) (.x)) (.s (.r [none, some tB, none]) (.c (.s (.r [none, none, some tI, some tP, none]) (.x)) (.s (.r [none, some tB, none]) (.c (.s (.r [none, some tS, none]) (.s (.r [none, some tP, none]) (.s (.r [none, some tP, none]) (.s (.d (.q 0 none (.q 1 none (.q 2 (some tI) (.q 3 none (.q 4 none (.q 5 none (.l 6 (some tP) (.l 7 (some tSl) (.l 8 (some tP) (.q 9 none (.e)))))))))))) (.x))))) (.s (.r [none, some tB, none]) (.c (.s (.r [none, some tS, none]) (.s (.r [none, some tP, none]) (.s (.r [none, some tU]) (.s (.r [none, some tP, none]) (.s (.r [none, some tU]) (.s (.r [none, none, some tI, none, none, some tSl, some tP, none]) (.x))))))) (.x)))))))))))))))))))) (.s (.r [none]) (.x)))
def t_parser_declaration (a0_a0 : Addr) (a1_a1 : HB [.int .i64, .str, .int .i64, .int .i64]) : T :=
  .op (boxS T_api_Token (.agg #[.int .i64 a1_a1.1, .string a1_a1.2.1, .int .i64 a1_a1.2.2.1, .int .i64 a1_a1.2.2.2.1])) tA fun r1 =>
  .join 0 [.b .bool] (
    .op (callS F_parser_is #[.pointer (some a0_a0), .string kconst]) tB fun r2 =>
    .ite r2 (
      .op (callS F_parser_then #[.pointer (some a0_a0), .int .i64 1]) (.c (.agg [.int .i64, .str, .int .i64, .int .i64])) fun r3 =>
      .op (callS F_syntax_says #[.agg #[.int .i64 r3.1, .string r3.2.1, .int .i64 r3.2.2.1, .int .i64 r3.2.2.2.1], .string kenum]) tB fun r4 =>
      .out 0 [.bool r4]) (
      .out 0 [.bool false])) fun x5 =>
  .ite x5.1 (
    .op (callS F_parser_next #[.pointer (some a0_a0)]) (.c (.agg [.int .i64, .str, .int .i64, .int .i64])) fun r6 =>
    .op (ldS T_int (.pointer (some ⟨r1.block, r1.off + 2, none⟩))) tI fun r7 =>
    .op (callS F_parser_enum #[.pointer (some a0_a0), .int .i64 1, .int .i64 r7]) tP fun r8 =>
    .ret #[.v (.pointer r8)]) (
    .op (callS F_parser_take #[.pointer (some a0_a0), .string klet]) tB fun r9 =>
    .ite r9 (
      .op (ldS T_int (.pointer (some ⟨r1.block, r1.off + 2, none⟩))) tI fun r10 =>
      .op (callS F_parser_variable #[.pointer (some a0_a0), .int .i64 0, .int .i64 r10]) tP fun r11 =>
      .op (callS F_parser_must #[.pointer (some a0_a0), .string k_semi]) tU fun _ =>
      .ret #[.v (.pointer r11)]) (
      .op (callS F_parser_take #[.pointer (some a0_a0), .string kconst]) tB fun r13 =>
      .ite r13 (
        .op (ldS T_int (.pointer (some ⟨r1.block, r1.off + 2, none⟩))) tI fun r14 =>
        .op (callS F_parser_variable #[.pointer (some a0_a0), .int .i64 1, .int .i64 r14]) tP fun r15 =>
        .op (callS F_parser_must #[.pointer (some a0_a0), .string k_semi]) tU fun _ =>
        .ret #[.v (.pointer r15)]) (
        .op (callS F_parser_take #[.pointer (some a0_a0), .string kfunction]) tB fun r17 =>
        .ite r17 (
          .op (ldS T_int (.pointer (some ⟨r1.block, r1.off + 2, none⟩))) tI fun r18 =>
          .op (callS F_parser_function #[.pointer (some a0_a0), .int .i64 41, .int .i64 r18]) tP fun r19 =>
          .ret #[.v (.pointer r19)]) (
          .op (callS F_parser_take #[.pointer (some a0_a0), .string kclass]) tB fun r20 =>
          .ite r20 (
            .op (ldS T_int (.pointer (some ⟨r1.block, r1.off + 2, none⟩))) tI fun r21 =>
            .op (callS F_parser_class #[.pointer (some a0_a0), .int .i64 r21]) tP fun r22 =>
            .ret #[.v (.pointer r22)]) (
            .op (callS F_parser_is #[.pointer (some a0_a0), .string kenum]) tB fun r23 =>
            .ite r23 (
              .op (ldS T_int (.pointer (some ⟨r1.block, r1.off + 2, none⟩))) tI fun r24 =>
              .op (callS F_parser_enum #[.pointer (some a0_a0), .int .i64 0, .int .i64 r24]) tP fun r25 =>
              .ret #[.v (.pointer r25)]) (
              .op (callS F_parser_take #[.pointer (some a0_a0), .string knamespace]) tB fun r26 =>
              .ite r26 (
                .op (ldS T_int (.pointer (some ⟨r1.block, r1.off + 2, none⟩))) tI fun r27 =>
                .op (callS F_parser_namespace #[.pointer (some a0_a0), .int .i64 r27]) tP fun r28 =>
                .ret #[.v (.pointer r28)]) (
                .op (callS F_parser_take #[.pointer (some a0_a0), .string kinterface]) tB fun r29 =>
                .ite r29 (
                  .op (callS F_parser_name #[.pointer (some a0_a0)]) tS fun r30 =>
                  .op (callS F_parser_vars #[.pointer (some a0_a0)]) tP fun r31 =>
                  .op (callS F_parser_refs #[.pointer (some a0_a0), .string kextends]) tP fun r32 =>
                  .draw <|
                  .opq (ldS T_int (.pointer (some ⟨r1.block, r1.off + 2, none⟩))) tI fun r33 =>
                  .opl (callS F_parser_objectType #[.pointer (some a0_a0)]) tP fun r34 =>
                  .opl (sliceS T_SPsyntax_node 3 #[(0, .pointer r31), (1, .pointer r32), (2, .pointer r34)]) tSl fun r35 =>
                  .opl (callS F_syntax_made #[.int .i64 51, .string r30, .int .i64 0, .int .i64 r33, .slice r35.1 r35.2.1 r35.2.2]) tP fun r36 =>
                  .ret #[.v (.pointer r36)]) (
                  .op (callS F_parser_take #[.pointer (some a0_a0), .string ktype]) tB fun r37 =>
                  .ite r37 (
                    .op (callS F_parser_name #[.pointer (some a0_a0)]) tS fun r38 =>
                    .op (callS F_parser_vars #[.pointer (some a0_a0)]) tP fun r39 =>
                    .op (callS F_parser_must #[.pointer (some a0_a0), .string k_eq]) tU fun _ =>
                    .op (callS F_parser_typed #[.pointer (some a0_a0)]) tP fun r41 =>
                    .op (callS F_parser_must #[.pointer (some a0_a0), .string k_semi]) tU fun _ =>
                    .op (ldS T_int (.pointer (some ⟨r1.block, r1.off + 2, none⟩))) tI fun r43 =>
                    .op (sliceS T_SPsyntax_node 2 #[(0, .pointer r39), (1, .pointer r41)]) tSl fun r44 =>
                    .op (callS F_syntax_made #[.int .i64 52, .string r38, .int .i64 0, .int .i64 r43, .slice r44.1 r44.2.1 r44.2.2]) tP fun r45 =>
                    .ret #[.v (.pointer r45)]) (
                    .ret #[.v (.pointer none)])))))))))
theorem d_parser_declaration (a0_a0 : Addr) (a1_a1 : HB [.int .i64, .str, .int .i64, .int .i64]) : fnT Tryz.prog Tryz.f131 an_parser_declaration [.pointer (some a0_a0), .agg #[.int .i64 a1_a1.1, .string a1_a1.2.1, .int .i64 a1_a1.2.2.1, .int .i64 a1_a1.2.2.2.1]] = t_parser_declaration a0_a0 a1_a1 := by kernel_rfl
theorem c_parser_declaration {ε σ β : Type} {I : Ifc ε σ} {t : Ty} {s : Sp ε σ β} {Rel : β → t.den → Own → Fact} {Γ : List Fact} (a0_a0 : Addr) (a1_a1 : HB [.int .i64, .str, .int .i64, .int .i64]) (h : Sim Tryz.prog I t Rel noLabel none (t_parser_declaration a0_a0 a1_a1) s [] Γ) : MeetsO Tryz.prog I (callS F_parser_declaration #[.pointer (some a0_a0), .agg #[.int .i64 a1_a1.1, .string a1_a1.2.1, .int .i64 a1_a1.2.2.1, .int .i64 a1_a1.2.2.2.1]]) t s Rel Γ :=
  meets_of_sim (args := [.pointer (some a0_a0), .agg #[.int .i64 a1_a1.1, .string a1_a1.2.1, .int .i64 a1_a1.2.2.1, .int .i64 a1_a1.2.2.2.1]]) Tryz.func131 rfl rfl (Nat.le_of_ble_eq_true rfl) (by rw [d_parser_declaration]; exact h)

def an_parser_function : An :=
  .s (.r [none]) (.s (.r [none, some tS, none]) (.s (.r [none, some tP, none]) (.s (.r [none, some tU]) (.s (.r [none, some tP, none]) (.s (.r [none, some tU]) (.s (.r [none, some tP, none]) (.s (.r [none, none, none, none, none, none, none, some tP, some tSl, some tP, none]) (.x))))))))
def t_parser_function (a0_p : Addr) (a1_kind : Int) (a2_at : Int) : T :=
  .op (callS F_parser_name #[.pointer (some a0_p)]) tS fun r1 =>
  .op (callS F_parser_vars #[.pointer (some a0_p)]) tP fun r2 =>
  .op (callS F_parser_must #[.pointer (some a0_p), .string k_lp]) tU fun _ =>
  .op (callS F_parser_params #[.pointer (some a0_p), .bool false]) tP fun r4 =>
  .op (callS F_parser_must #[.pointer (some a0_p), .string k_rp]) tU fun _ =>
  .op (callS F_parser_optional #[.pointer (some a0_p)]) tP fun r6 =>
  .op (callS F_parser_block #[.pointer (some a0_p)]) tP fun r7 =>
  .op (sliceS T_SPsyntax_node 4 #[(0, .pointer r2), (1, .pointer r4), (2, .pointer r6), (3, .pointer r7)]) tSl fun r8 =>
  .op (callS F_syntax_made #[.int .i64 a1_kind, .string r1, .int .i64 0, .int .i64 a2_at, .slice r8.1 r8.2.1 r8.2.2]) tP fun r9 =>
  .ret #[.v (.pointer r9)]
theorem d_parser_function (a0_p : Addr) (a1_kind : Int) (a2_at : Int) : fnT Tryz.prog Tryz.f181 an_parser_function [.pointer (some a0_p), .int .i64 a1_kind, .int .i64 a2_at] = t_parser_function a0_p a1_kind a2_at := by kernel_rfl
theorem c_parser_function {ε σ β : Type} {I : Ifc ε σ} {t : Ty} {s : Sp ε σ β} {Rel : β → t.den → Own → Fact} {Γ : List Fact} (a0_p : Addr) (a1_kind : Int) (a2_at : Int) (h : Sim Tryz.prog I t Rel noLabel none (t_parser_function a0_p a1_kind a2_at) s [] Γ) : MeetsO Tryz.prog I (callS F_parser_function #[.pointer (some a0_p), .int .i64 a1_kind, .int .i64 a2_at]) t s Rel Γ :=
  meets_of_sim (args := [.pointer (some a0_p), .int .i64 a1_kind, .int .i64 a2_at]) Tryz.func181 rfl rfl (Nat.le_of_ble_eq_true rfl) (by rw [d_parser_function]; exact h)

def an_parser_class : An :=
  .s (.r [none]) (.s (.r [none, some tS, none]) (.s (.r [none, some tP, none]) (.s (.r [none, some tP, none]) (.s (.s (.r [none, some (.c (.agg [.int .i64, .str, .int .i64, .int .i64])), none, none]) (.s (.r [none, some tB]) (.j [(7, .b .ptr)] (.c (.s (.r [none, some tS, none]) (.r [none, none, none, some tP, some tSl, some tP, none])) (.x))))) (.s (.r [none, some tP, none]) (.s (.r [none, some tU]) (.s (.r [none, some tP, none]) (.s (.r [none]) (.s (.j [(12, .b (.int .i64))] (.b (.l [(12, .b (.int .i64))] (.s (.s (.r [none, some tB, none]) (.c (.x) (.x))) (.b (.s (.r [none, some tP, none]) (.s (.s (.r [none, some tA, none, none, some tI, none]) (.j [(12, .b (.int .i64))] (.c (.r [none, none, none]) (.x)))) (.r [none, none, some tA, none, some tSl, none, some tSl, some tSl, some tA, none, some tU])))))))) (.s (.s (.r [none, none]) (.c (.r [none, some tU]) (.x))) (.s (.r [none, some tU]) (.s (.r [none, none, none, none, none, none, some tSl, some tP, none]) (.x)))))))))))))
def t_parser_class (a0_a0 : Addr) (a1_a1 : Int) : T :=
  .op (callS F_parser_name #[.pointer (some a0_a0)]) tS fun r1 =>
  .op (callS F_parser_vars #[.pointer (some a0_a0)]) tP fun r2 =>
  .op (callS F_parser_none #[.pointer (some a0_a0)]) tP fun r3 =>
  .op (callS F_parser_now #[.pointer (some a0_a0)]) (.c (.agg [.int .i64, .str, .int .i64, .int .i64])) fun r4 =>
  .op (callS F_parser_take #[.pointer (some a0_a0), .string kextends]) tB fun r5 =>
  .join 0 [.b .ptr] (
    .ite r5 (
      .op (callS F_parser_name #[.pointer (some a0_a0)]) tS fun r6 =>
      .op (callS F_parser_args #[.pointer (some a0_a0)]) tP fun r7 =>
      .op (sliceS T_SPsyntax_node 1 #[(0, .pointer r7)]) tSl fun r8 =>
      .op (callS F_syntax_made #[.int .i64 43, .string r6, .int .i64 0, .int .i64 r4.2.2.1, .slice r8.1 r8.2.1 r8.2.2]) tP fun r9 =>
      .out 0 [.pointer r9]) (
      .out 0 [.pointer r3])) fun x10 =>
  .op (callS F_parser_refs #[.pointer (some a0_a0), .string kimplements]) tP fun r11 =>
  .op (callS F_parser_must #[.pointer (some a0_a0), .string k_lc]) tU fun _ =>
  .op (callS F_parser_empty #[.pointer (some a0_a0)]) tP fun r13 =>
  .join 0 [.b (.int .i64)] (
    .loop 1 [.b (.int .i64)] [.int .i64 0] fun x14 =>
      .op (callS F_parser_is #[.pointer (some a0_a0), .string k_rc]) tB fun r15 =>
      .ite (!r15) (
        .op (callS F_parser_part #[.pointer (some a0_a0)]) tP fun r16 =>
        .op (nilS (.pointer r16)) tA fun r17 =>
        .op (ldS T_int (.pointer (some r17))) tI fun r18 =>
        .join 2 [.b (.int .i64)] (
          .ite ((r18 : Int) == 46) (
            .out 2 [.int .i64 (IntKind.i64.wrap (x14.1 + 1))]) (
            .out 2 [.int .i64 x14.1])) fun x19 =>
        .op (nilS (.pointer r13)) tA fun r20 =>
        .op (ldS T_SPsyntax_node (.pointer (some ⟨r20.block, r20.off + 5, none⟩))) tSl fun r21 =>
        .op (sliceS T_SPsyntax_node 1 #[(0, .pointer r16)]) tSl fun r22 =>
        .op (appS #[T_SPsyntax_node, T_SPsyntax_node] T_SPsyntax_node #[.slice r21.1 r21.2.1 r21.2.2, .slice r22.1 r22.2.1 r22.2.2]) tSl fun r23 =>
        .op (nilS (.pointer r13)) tA fun r24 =>
        .op (stS T_SPsyntax_node (.pointer (some ⟨r24.block, r24.off + 5, none⟩)) (.slice r23.1 r23.2.1 r23.2.2)) tU fun _ =>
        .out 1 [.int .i64 x19.1]) (
        .out 0 [.int .i64 x14.1])) fun x26 =>
  .ite (decide ((x26.1 : Int) > 1)) (
    .op (callS F_parser_fail #[.pointer (some a0_a0)]) tU fun _ =>
    .op (callS F_parser_must #[.pointer (some a0_a0), .string k_rc]) tU fun _ =>
    .op (sliceS T_SPsyntax_node 4 #[(0, .pointer r2), (1, .pointer x10.1), (2, .pointer r11), (3, .pointer r13)]) tSl fun r29 =>
    .op (callS F_syntax_made #[.int .i64 42, .string r1, .int .i64 0, .int .i64 a1_a1, .slice r29.1 r29.2.1 r29.2.2]) tP fun r30 =>
    .ret #[.v (.pointer r30)]) (
    .op (callS F_parser_must #[.pointer (some a0_a0), .string k_rc]) tU fun _ =>
    .op (sliceS T_SPsyntax_node 4 #[(0, .pointer r2), (1, .pointer x10.1), (2, .pointer r11), (3, .pointer r13)]) tSl fun r32 =>
    .op (callS F_syntax_made #[.int .i64 42, .string r1, .int .i64 0, .int .i64 a1_a1, .slice r32.1 r32.2.1 r32.2.2]) tP fun r33 =>
    .ret #[.v (.pointer r33)])
theorem d_parser_class (a0_a0 : Addr) (a1_a1 : Int) : fnT Tryz.prog Tryz.f182 an_parser_class [.pointer (some a0_a0), .int .i64 a1_a1] = t_parser_class a0_a0 a1_a1 := by kernel_rfl
theorem c_parser_class {ε σ β : Type} {I : Ifc ε σ} {t : Ty} {s : Sp ε σ β} {Rel : β → t.den → Own → Fact} {Γ : List Fact} (a0_a0 : Addr) (a1_a1 : Int) (h : Sim Tryz.prog I t Rel noLabel none (t_parser_class a0_a0 a1_a1) s [] Γ) : MeetsO Tryz.prog I (callS F_parser_class #[.pointer (some a0_a0), .int .i64 a1_a1]) t s Rel Γ :=
  meets_of_sim (args := [.pointer (some a0_a0), .int .i64 a1_a1]) Tryz.func182 rfl rfl (Nat.le_of_ble_eq_true rfl) (by rw [d_parser_class]; exact h)

def an_parser_part : An :=
  .s (.r [none]) (.s (.r [none, some (.c (.agg [.int .i64, .str, .int .i64, .int .i64])), none, none]) (.s (.s (.r [none, some tB]) (.c (.s (.r [none, some tU]) (.s (.r [none, some tP, none]) (.s (.r [none, some tU]) (.s (.r [none, none, none, some tP, some tSl, some tP, none]) (.x))))) (.x))) (.s (.s (.r [none, some (.c (.agg [.int .i64, .str, .int .i64, .int .i64])), some tA, some tU]) (.s (.j [(40, .b .bool)] (.r [none, some (.c (.agg [.int .i64, .str, .int .i64, .int .i64])), none, none, none, some (.c (.agg [.int .i64, .str, .int .i64, .int .i64])), some tB, none, some (.c (.agg [.int .i64, .str, .int .i64, .int .i64])), some tB, none, none])) (.c (.s (.r [none, none, some tP, none]) (.x)) (.x)))) (.s (.r [none]) (.s (.s (.r [none, some tB]) (.j [(6, .b (.int .i64))] (.c (.r [none]) (.x)))) (.s (.r [none, some tS, none]) (.s (.r [none, some tP, none]) (.s (.r [none, some tP, none]) (.s (.s (.r [none, some tB]) (.c (.r [none, some tP, none]) (.x))) (.s (.r [none, some tU]) (.s (.r [none, none, none, none, none, some tSl, some tP, none]) (.x))))))))))))
def t_parser_part (a0_a0 : Addr) : T :=
  .op (callS F_parser_now #[.pointer (some a0_a0)]) (.c (.agg [.int .i64, .str, .int .i64, .int .i64])) fun r1 =>
  .op (callS F_parser_take #[.pointer (some a0_a0), .string kconstructor]) tB fun r2 =>
  .ite r2 (
    .op (callS F_parser_must #[.pointer (some a0_a0), .string k_lp]) tU fun _ =>
    .op (callS F_parser_params #[.pointer (some a0_a0), .bool true]) tP fun r4 =>
    .op (callS F_parser_must #[.pointer (some a0_a0), .string k_rp]) tU fun _ =>
    .op (callS F_parser_block #[.pointer (some a0_a0)]) tP fun r6 =>
    .op (sliceS T_SPsyntax_node 2 #[(0, .pointer r4), (1, .pointer r6)]) tSl fun r7 =>
    .op (callS F_syntax_made #[.int .i64 46, .string kE, .int .i64 0, .int .i64 r1.2.2.1, .slice r7.1 r7.2.1 r7.2.2]) tP fun r8 =>
    .ret #[.v (.pointer r8)]) (
    .op (callS F_parser_then #[.pointer (some a0_a0), .int .i64 1]) (.c (.agg [.int .i64, .str, .int .i64, .int .i64])) fun r9 =>
    .op (allocS T_api_Token) tA fun r10 =>
    .op (stS T_api_Token (.pointer (some r10)) (.agg #[.int .i64 r9.1, .string r9.2.1, .int .i64 r9.2.2.1, .int .i64 r9.2.2.2.1])) tU fun _ =>
    .join 0 [.b .bool] (
      .op (callS F_parser_now #[.pointer (some a0_a0)]) (.c (.agg [.int .i64, .str, .int .i64, .int .i64])) fun r12 =>
      .ite ((r12.1 : Int) == 1) (
        .op (ldS T_api_Token (.pointer (some r10))) (.c (.agg [.int .i64, .str, .int .i64, .int .i64])) fun r13 =>
        .op (callS F_syntax_says #[.agg #[.int .i64 r13.1, .string r13.2.1, .int .i64 r13.2.2.1, .int .i64 r13.2.2.2.1], .string k_lp]) tB fun r14 =>
        .ite r14 (
          .out 0 [.bool true]) (
          .op (ldS T_api_Token (.pointer (some r10))) (.c (.agg [.int .i64, .str, .int .i64, .int .i64])) fun r15 =>
          .op (callS F_syntax_says #[.agg #[.int .i64 r15.1, .string r15.2.1, .int .i64 r15.2.2.1, .int .i64 r15.2.2.2.1], .string k_lt]) tB fun r16 =>
          .out 0 [.bool r16])) (
        .out 0 [.bool false])) fun x17 =>
    .ite x17.1 (
      .op (callS F_parser_function #[.pointer (some a0_a0), .int .i64 45, .int .i64 r1.2.2.1]) tP fun r18 =>
      .ret #[.v (.pointer r18)]) (
      .op (callS F_parser_take #[.pointer (some a0_a0), .string kreadonly]) tB fun r19 =>
      .join 0 [.b (.int .i64)] (
        .ite r19 (
          .out 0 [.int .i64 4]) (
          .out 0 [.int .i64 0])) fun x20 =>
      .op (callS F_parser_name #[.pointer (some a0_a0)]) tS fun r21 =>
      .op (callS F_parser_optional #[.pointer (some a0_a0)]) tP fun r22 =>
      .op (callS F_parser_none #[.pointer (some a0_a0)]) tP fun r23 =>
      .op (callS F_parser_take #[.pointer (some a0_a0), .string k_eq]) tB fun r24 =>
      .ite r24 (
        .op (callS F_parser_expr #[.pointer (some a0_a0)]) tP fun r25 =>
        .op (callS F_parser_must #[.pointer (some a0_a0), .string k_semi]) tU fun _ =>
        .op (sliceS T_SPsyntax_node 2 #[(0, .pointer r22), (1, .pointer r25)]) tSl fun r27 =>
        .op (callS F_syntax_made #[.int .i64 44, .string r21, .int .i64 x20.1, .int .i64 r1.2.2.1, .slice r27.1 r27.2.1 r27.2.2]) tP fun r28 =>
        .ret #[.v (.pointer r28)]) (
        .op (callS F_parser_must #[.pointer (some a0_a0), .string k_semi]) tU fun _ =>
        .op (sliceS T_SPsyntax_node 2 #[(0, .pointer r22), (1, .pointer r23)]) tSl fun r30 =>
        .op (callS F_syntax_made #[.int .i64 44, .string r21, .int .i64 x20.1, .int .i64 r1.2.2.1, .slice r30.1 r30.2.1 r30.2.2]) tP fun r31 =>
        .ret #[.v (.pointer r31)])))
theorem d_parser_part (a0_a0 : Addr) : fnT Tryz.prog Tryz.f216 an_parser_part [.pointer (some a0_a0)] = t_parser_part a0_a0 := by kernel_rfl
theorem c_parser_part {ε σ β : Type} {I : Ifc ε σ} {t : Ty} {s : Sp ε σ β} {Rel : β → t.den → Own → Fact} {Γ : List Fact} (a0_a0 : Addr) (h : Sim Tryz.prog I t Rel noLabel none (t_parser_part a0_a0) s [] Γ) : MeetsO Tryz.prog I (callS F_parser_part #[.pointer (some a0_a0)]) t s Rel Γ :=
  meets_of_sim (args := [.pointer (some a0_a0)]) Tryz.func216 rfl rfl (Nat.le_of_ble_eq_true rfl) (by rw [d_parser_part]; exact h)

def an_parser_enum : An :=
  .s (.r [none]) (.b (.s (.r [none, some tU]) (.s (.r [none, some tS, none, none, some tP, none]) (.s (.r [none, some tU]) (.s (.x) (.s (.j [] (.b (.l [] (.s (.s (.r [none, some tB, none]) (.c (.x) (.x))) (.b (.s (.r [none, some (.c (.agg [.int .i64, .str, .int .i64, .int .i64])), none, none]) (.s (.r [none, some tS, none]) (.s (.r [none, some tP, none]) (.s (.s (.r [none, some tB]) (.j [(10, .b .ptr)] (.c (.r [none, some tP, none]) (.x)))) (.s (.d (.q 0 none (.q 1 none (.q 2 (some tA) (.q 3 none (.q 4 (some tSl) (.q 5 none (.q 6 none (.q 7 none (.l 8 (some tSl) (.l 9 (some tP) (.l 10 (some tSl) (.l 11 (some tSl) (.q 12 (some tA) (.q 13 none (.l 14 (some tU) (.e))))))))))))))))) (.s (.r [none, some tB, none]) (.c (.x) (.x))))))))))))) (.s (.r [none, some tU]) (.s (.r [none, none]) (.x)))))))))
def t_parser_enum (a0_p : Addr) (a1_n : Int) (a2_at : Int) : T :=
  .op (callS F_parser_must #[.pointer (some a0_p), .string kenum]) tU fun _ =>
  .op (callS F_parser_name #[.pointer (some a0_p)]) tS fun r2 =>
  .op (callS F_syntax_made #[.int .i64 47, .string r2, .int .i64 a1_n, .int .i64 a2_at, .slice none 0 0]) tP fun r3 =>
  .op (callS F_parser_must #[.pointer (some a0_p), .string k_lc]) tU fun _ =>
  .join 0 [] (
    .loop 1 [] [] fun x5 =>
      .op (callS F_parser_is #[.pointer (some a0_p), .string k_rc]) tB fun r6 =>
      .ite (!r6) (
        .op (callS F_parser_now #[.pointer (some a0_p)]) (.c (.agg [.int .i64, .str, .int .i64, .int .i64])) fun r7 =>
        .op (callS F_parser_name #[.pointer (some a0_p)]) tS fun r8 =>
        .op (callS F_parser_none #[.pointer (some a0_p)]) tP fun r9 =>
        .op (callS F_parser_take #[.pointer (some a0_p), .string k_eq]) tB fun r10 =>
        .join 2 [.b .ptr] (
          .ite r10 (
            .op (callS F_parser_expr #[.pointer (some a0_p)]) tP fun r11 =>
            .out 2 [.pointer r11]) (
            .out 2 [.pointer r9])) fun x12 =>
        .draw <|
        .opq (nilS (.pointer r3)) tA fun r13 =>
        .opq (ldS T_SPsyntax_node (.pointer (some ⟨r13.block, r13.off + 5, none⟩))) tSl fun r14 =>
        .opl (sliceS T_SPsyntax_node 1 #[(0, .pointer x12.1)]) tSl fun r15 =>
        .opl (callS F_syntax_made #[.int .i64 48, .string r8, .int .i64 0, .int .i64 r7.2.2.1, .slice r15.1 r15.2.1 r15.2.2]) tP fun r16 =>
        .opl (sliceS T_SPsyntax_node 1 #[(0, .pointer r16)]) tSl fun r17 =>
        .opl (appS #[T_SPsyntax_node, T_SPsyntax_node] T_SPsyntax_node #[.slice r14.1 r14.2.1 r14.2.2, .slice r17.1 r17.2.1 r17.2.2]) tSl fun r18 =>
        .opq (nilS (.pointer r3)) tA fun r19 =>
        .op (stS T_SPsyntax_node (.pointer (some ⟨r19.block, r19.off + 5, none⟩)) (.slice r18.1 r18.2.1 r18.2.2)) tU fun _ =>
        .op (callS F_parser_take #[.pointer (some a0_p), .string k_comma]) tB fun r21 =>
        .ite (!r21) (
          .out 0 []) (
          .out 1 [])) (
        .out 0 [])) fun x22 =>
  .op (callS F_parser_must #[.pointer (some a0_p), .string k_rc]) tU fun _ =>
  .ret #[.v (.pointer r3)]
theorem d_parser_enum (a0_p : Addr) (a1_n : Int) (a2_at : Int) : fnT Tryz.prog Tryz.f179 an_parser_enum [.pointer (some a0_p), .int .i64 a1_n, .int .i64 a2_at] = t_parser_enum a0_p a1_n a2_at := by kernel_rfl
theorem c_parser_enum {ε σ β : Type} {I : Ifc ε σ} {t : Ty} {s : Sp ε σ β} {Rel : β → t.den → Own → Fact} {Γ : List Fact} (a0_p : Addr) (a1_n : Int) (a2_at : Int) (h : Sim Tryz.prog I t Rel noLabel none (t_parser_enum a0_p a1_n a2_at) s [] Γ) : MeetsO Tryz.prog I (callS F_parser_enum #[.pointer (some a0_p), .int .i64 a1_n, .int .i64 a2_at]) t s Rel Γ :=
  meets_of_sim (args := [.pointer (some a0_p), .int .i64 a1_n, .int .i64 a2_at]) Tryz.func179 rfl rfl (Nat.le_of_ble_eq_true rfl) (by rw [d_parser_enum]; exact h)

def an_parser_namespace : An :=
  .s (.r [none]) (.s (.r [none, some tS, none, some tP, none]) (.s (.r [none, some tU]) (.s (.j [] (.b (.l [] (.s (.s (.r [none, some tB, none]) (.c (.x) (.x))) (.b (.s (.r [none, some (.c (.agg [.int .i64, .str, .int .i64, .int .i64])), some tA, some tU]) (.s (.s (.r [none, some tB, none]) (.c (.s (.d (.q 0 none (.q 1 none (.q 2 (some tA) (.q 3 none (.q 4 (some tSl) (.q 5 none (.l 6 (some tP) (.l 7 (some tSl) (.l 8 (some tSl) (.q 9 (some tA) (.q 10 none (.l 11 (some tU) (.e)))))))))))))) (.x)) (.x))) (.s (.s (.j [(40, .b .bool)] (.r [none, some tB, none, none, some (.c (.agg [.int .i64, .str, .int .i64, .int .i64])), none, none, none])) (.j [] (.c (.r [none, some tU]) (.x)))) (.s (.r [none, none, some (.c (.agg [.int .i64, .str, .int .i64, .int .i64])), some tP, none]) (.s (.s (.j [(64, .b .bool)] (.r [none, some tB, none, none, some tA, none, none, some tI, none, none, none, some tA, none, none, some tI, none, none, none])) (.j [] (.c (.r [none, some tU]) (.x)))) (.d (.q 0 none (.q 1 none (.q 2 (some tA) (.q 3 none (.q 4 (some tSl) (.q 5 none (.q 6 (some tI) (.q 7 none (.l 8 (some tSl) (.l 9 (some tP) (.l 10 (some tSl) (.l 11 (some tSl) (.q 12 (some tA) (.q 13 none (.l 14 (some tU) (.e))))))))))))))))))))))))))) (.s (.r [none, some tU]) (.s (.r [none, none]) (.x))))))
def t_parser_namespace (a0_a0 : Addr) (a1_a1 : Int) : T :=
  .op (callS F_parser_name #[.pointer (some a0_a0)]) tS fun r1 =>
  .op (callS F_syntax_made #[.int .i64 49, .string r1, .int .i64 0, .int .i64 a1_a1, .slice none 0 0]) tP fun r2 =>
  .op (callS F_parser_must #[.pointer (some a0_a0), .string k_lc]) tU fun _ =>
  .join 0 [] (
    .loop 1 [] [] fun x4 =>
      .op (callS F_parser_is #[.pointer (some a0_a0), .string k_rc]) tB fun r5 =>
      .ite (!r5) (
        .op (callS F_parser_now #[.pointer (some a0_a0)]) (.c (.agg [.int .i64, .str, .int .i64, .int .i64])) fun r6 =>
        .op (allocS T_api_Token) tA fun r7 =>
        .op (stS T_api_Token (.pointer (some r7)) (.agg #[.int .i64 r6.1, .string r6.2.1, .int .i64 r6.2.2.1, .int .i64 r6.2.2.2.1])) tU fun _ =>
        .op (callS F_parser_take #[.pointer (some a0_a0), .string kexport]) tB fun r9 =>
        .ite (!r9) (
          .draw <|
          .opq (nilS (.pointer r2)) tA fun r10 =>
          .opq (ldS T_SPsyntax_node (.pointer (some ⟨r10.block, r10.off + 5, none⟩))) tSl fun r11 =>
          .opl (callS F_parser_statement #[.pointer (some a0_a0)]) tP fun r12 =>
          .opl (sliceS T_SPsyntax_node 1 #[(0, .pointer r12)]) tSl fun r13 =>
          .opl (appS #[T_SPsyntax_node, T_SPsyntax_node] T_SPsyntax_node #[.slice r11.1 r11.2.1 r11.2.2, .slice r13.1 r13.2.1 r13.2.2]) tSl fun r14 =>
          .opq (nilS (.pointer r2)) tA fun r15 =>
          .op (stS T_SPsyntax_node (.pointer (some ⟨r15.block, r15.off + 5, none⟩)) (.slice r14.1 r14.2.1 r14.2.2)) tU fun _ =>
          .out 1 []) (
          .join 2 [.b .bool] (
            .op (callS F_parser_is #[.pointer (some a0_a0), .string klet]) tB fun r17 =>
            .ite r17 (
              .out 2 [.bool true]) (
              .op (callS F_parser_now #[.pointer (some a0_a0)]) (.c (.agg [.int .i64, .str, .int .i64, .int .i64])) fun r18 =>
              .out 2 [.bool ((r18.1 : Int) != 2)])) fun x19 =>
          .join 2 [] (
            .ite x19.1 (
              .op (callS F_parser_fail #[.pointer (some a0_a0)]) tU fun _ =>
              .out 2 []) (
              .out 2 [])) fun x21 =>
          .op (callS F_parser_now #[.pointer (some a0_a0)]) (.c (.agg [.int .i64, .str, .int .i64, .int .i64])) fun r22 =>
          .op (callS F_parser_declaration #[.pointer (some a0_a0), .agg #[.int .i64 r22.1, .string r22.2.1, .int .i64 r22.2.2.1, .int .i64 r22.2.2.2.1]]) tP fun r23 =>
          .join 2 [.b .bool] (
            .op (binS .eql T_Psyntax_node (.pointer r23) (.pointer none)) tB fun r24 =>
            .ite r24 (
              .out 2 [.bool true]) (
              .op (nilS (.pointer r23)) tA fun r25 =>
              .op (ldS T_int (.pointer (some r25))) tI fun r26 =>
              .ite ((r26 : Int) == 47) (
                .op (nilS (.pointer r23)) tA fun r27 =>
                .op (ldS T_int (.pointer (some ⟨r27.block, r27.off + 2, none⟩))) tI fun r28 =>
                .out 2 [.bool ((r28 : Int) == 1)]) (
                .out 2 [.bool false]))) fun x29 =>
          .join 2 [] (
            .ite x29.1 (
              .op (callS F_parser_fail #[.pointer (some a0_a0)]) tU fun _ =>
              .out 2 []) (
              .out 2 [])) fun x31 =>
          .draw <|
          .opq (nilS (.pointer r2)) tA fun r32 =>
          .opq (ldS T_SPsyntax_node (.pointer (some ⟨r32.block, r32.off + 5, none⟩))) tSl fun r33 =>
          .opq (ldS T_int (.pointer (some ⟨r7.block, r7.off + 2, none⟩))) tI fun r34 =>
          .opl (sliceS T_SPsyntax_node 1 #[(0, .pointer r23)]) tSl fun r35 =>
          .opl (callS F_syntax_made #[.int .i64 50, .string kE, .int .i64 0, .int .i64 r34, .slice r35.1 r35.2.1 r35.2.2]) tP fun r36 =>
          .opl (sliceS T_SPsyntax_node 1 #[(0, .pointer r36)]) tSl fun r37 =>
          .opl (appS #[T_SPsyntax_node, T_SPsyntax_node] T_SPsyntax_node #[.slice r33.1 r33.2.1 r33.2.2, .slice r37.1 r37.2.1 r37.2.2]) tSl fun r38 =>
          .opq (nilS (.pointer r2)) tA fun r39 =>
          .op (stS T_SPsyntax_node (.pointer (some ⟨r39.block, r39.off + 5, none⟩)) (.slice r38.1 r38.2.1 r38.2.2)) tU fun _ =>
          .out 1 [])) (
        .out 0 [])) fun x41 =>
  .op (callS F_parser_must #[.pointer (some a0_a0), .string k_rc]) tU fun _ =>
  .ret #[.v (.pointer r2)]
theorem d_parser_namespace (a0_a0 : Addr) (a1_a1 : Int) : fnT Tryz.prog Tryz.f183 an_parser_namespace [.pointer (some a0_a0), .int .i64 a1_a1] = t_parser_namespace a0_a0 a1_a1 := by kernel_rfl
theorem c_parser_namespace {ε σ β : Type} {I : Ifc ε σ} {t : Ty} {s : Sp ε σ β} {Rel : β → t.den → Own → Fact} {Γ : List Fact} (a0_a0 : Addr) (a1_a1 : Int) (h : Sim Tryz.prog I t Rel noLabel none (t_parser_namespace a0_a0 a1_a1) s [] Γ) : MeetsO Tryz.prog I (callS F_parser_namespace #[.pointer (some a0_a0), .int .i64 a1_a1]) t s Rel Γ :=
  meets_of_sim (args := [.pointer (some a0_a0), .int .i64 a1_a1]) Tryz.func183 rfl rfl (Nat.le_of_ble_eq_true rfl) (by rw [d_parser_namespace]; exact h)
end
end Go.Proofs.YtjlgcpgjdgeejaaGreatDoor
end
