/- A part of the claim: general tools, trees of the program, and what its functions come to (PStmts to TrH). Conditions: as its theorems say. -/
import Derived.Test.YtjlgcpgjdgeejaaGreatDoorClC
import Derived.Laws.Slices
import Derived.Test.YtjlgcpgjdgeejaaGreatDoorProg

/- The parser of statements. Conditions: none. -/
section
namespace Go.Proofs.YtjlgcpgjdgeejaaGreatDoor
open Go
set_option linter.unusedSimpArgs false
set_option linter.unusedVariables false
set_option linter.constructorNameAsVariable false
set_option maxRecDepth 100000

theorem emptyO0_m (pb : Nat) : MeetsO PG (PI pb) (callS F_parser_empty #[.pointer (some (pAt pb))]) tP emptyS (fun n x K => (Fact.prop (n.kids = [])).both (OwnN n x K)) [] := by
  refine c_parser_empty (pAt pb) ?_
  unfold t_parser_empty emptyS
  refine sim_op (now_m pb) (fun _ h => nomatch h) fun x b => Sim.prop fun h => ?_
  subst h
  refine sim_own0 fun y K => ?_
  exact sim_ret1O (t := tP) K (List.sublist_append_left ..) _ rfl (fun F hF => ⟨rfl, hF _ (List.mem_cons_self ..)⟩)
theorem block_m {R : PRec} (hR : PRecM R) (pb : Nat) : Meets PG (PI pb) (callS F_parser_block #[.pointer (some (pAt pb))]) tP (blockS R) NodeF [] := by
  refine c_parser_block (pAt pb) ?_
  unfold t_parser_block blockS
  (with_reducible repeat (first | refine sA ?_ | refine sB ?_ | refine sC ?_ | refine sD ?_ | refine sE ?_ | refine sF ?_))
  first | refine sim_op (now_m _) (fun _ h => nomatch h) fun r1 b => Sim.prop fun h => ?_ | refine sim_op1 (now_m _) (fun _ h => nomatch h) fun r1 b => Sim.prop fun h => ?_
  subst h
  refine sim_own0 fun r2 Kr2 => ?_
  (with_reducible repeat (first | refine sA ?_ | refine sB ?_ | refine sC ?_ | refine sD ?_ | refine sE ?_ | refine sF ?_))
  first | refine sim_op (must_m _ _) (fun _ h => nomatch h) fun x b => ?_ | refine sim_op1 (must_m _ _) (fun _ h => nomatch h) fun x b => ?_
  refine sim_joinO (fun n => do mustS k_rc; pure n) r2 [] ?_ fun n K => ?_
  · skip
    refine sim_fuelO (stmtsS R) R.fuel _ (fun _ => rfl) rfl (by have := hR.fuel; simp [mkN, N.kids]; omega) (by repeat (first | exact mz | apply ms)) fun k n K hn => ?_
    (with_reducible repeat (first | refine sA ?_ | refine sB ?_ | refine sC ?_ | refine sD ?_ | refine sE ?_ | refine sF ?_))
    first | refine sim_op (is_m _ _) (fun _ h => nomatch h) fun r5 b => Sim.prop fun h => ?_ | refine sim_op1 (is_m _ _) (fun _ h => nomatch h) fun r5 b => Sim.prop fun h => ?_
    subst h
    (with_reducible repeat (first | refine sA ?_ | refine sB ?_ | refine sC ?_ | refine sD ?_ | refine sE ?_ | refine sF ?_))
    (first | refine qA (fun h => ?_) fun h => ?_ | refine qB (fun h => ?_) fun h => ?_ | refine qC (fun h => ?_) fun h => ?_ | refine qD (fun h => ?_) fun h => ?_ | refine qE (fun h => ?_) fun h => ?_) -- (!r5)
    · skip
      refine sim_growM (by repeat (first | exact mz | apply ms)) fun b sl ps K2 hx hb => ?_
      (with_reducible repeat (first | refine sA ?_ | refine sB ?_ | refine sC ?_ | refine sD ?_ | refine sE ?_ | refine sF ?_))
      first | refine sim_opl (hR.statement _) (fun _ h => nomatch h) fun r8 nr8 => ?_ | refine sim_opl1 (hR.statement _) (fun _ h => nomatch h) fun r8 nr8 => ?_
      subst hx
      refine sim_push hb (by repeat (first | exact mz | apply ms)) (by repeat (first | exact mz | apply ms)) (by omega) fun K => ?_
      (first | refine sim_outO0 _ rfl (by simp [N.push_len] at hn ⊢; omega) (by repeat (first | exact mz | apply ms)) | refine sim_outO1 _ (by decide) rfl (by simp [N.push_len] at hn ⊢; omega) (by repeat (first | exact mz | apply ms)))
    · skip
      exact sim_outJO _ rfl rfl (by repeat (first | exact mz | apply ms))
  · skip
    (with_reducible repeat (first | refine sA ?_ | refine sB ?_ | refine sC ?_ | refine sD ?_ | refine sE ?_ | refine sF ?_))
    first | refine sim_op (must_m _ _) (fun _ h => nomatch h) fun x b => ?_ | refine sim_op1 (must_m _ _) (fun _ h => nomatch h) fun x b => ?_
    refine sim_doneM (n := _) (x := r2) (by repeat (first | exact mz | apply ms)) ?_
    (with_reducible repeat (first | refine sA ?_ | refine sB ?_ | refine sC ?_ | refine sD ?_ | refine sE ?_ | refine sF ?_))
    exact sim_ret1 (t := tP) _ rfl (fun F hF => hF _ (by repeat (first | exact mz | apply ms)))
theorem round_m {R : PRec} (hR : PRecM R) (pb : Nat) : Meets PG (PI pb) (callS F_parser_round #[.pointer (some (pAt pb))]) tP (roundS R) NodeF [] := by
  refine c_parser_round (pAt pb) ?_
  unfold t_parser_round roundS
  (with_reducible repeat (first | refine sA ?_ | refine sB ?_ | refine sC ?_ | refine sD ?_ | refine sE ?_ | refine sF ?_))
  first | refine sim_op (must_m _ _) (fun _ h => nomatch h) fun x b => ?_ | refine sim_op1 (must_m _ _) (fun _ h => nomatch h) fun x b => ?_
  (with_reducible repeat (first | refine sA ?_ | refine sB ?_ | refine sC ?_ | refine sD ?_ | refine sE ?_ | refine sF ?_))
  first | refine sim_op (hR.expr _) (fun _ h => nomatch h) fun r2 nr2 => ?_ | refine sim_op1 (hR.expr _) (fun _ h => nomatch h) fun r2 nr2 => ?_
  (with_reducible repeat (first | refine sA ?_ | refine sB ?_ | refine sC ?_ | refine sD ?_ | refine sE ?_ | refine sF ?_))
  first | refine sim_op (must_m _ _) (fun _ h => nomatch h) fun x b => ?_ | refine sim_op1 (must_m _ _) (fun _ h => nomatch h) fun x b => ?_
  (with_reducible repeat (first | refine sA ?_ | refine sB ?_ | refine sC ?_ | refine sD ?_ | refine sE ?_ | refine sF ?_))
  exact sim_ret1 (t := tP) _ rfl (fun F hF => hF _ (by repeat (first | exact mz | apply ms)))
theorem ended_m {R : PRec} (hR : PRecM R) (pb : Nat) (kind : Int) (pos : Int) (may : Bool) : Meets PG (PI pb) (callS F_parser_ended #[.pointer (some (pAt pb)), .int .i64 kind, .int .i64 pos, .bool may]) tP (endedS R kind pos may) NodeF [] := by
  refine c_parser_ended (pAt pb) kind pos may ?_
  unfold t_parser_ended endedS
  (with_reducible repeat (first | refine sA ?_ | refine sB ?_ | refine sC ?_ | refine sD ?_ | refine sE ?_ | refine sF ?_))
  first | refine sim_op (none_m _) (fun _ h => nomatch h) fun r1 nr1 => ?_ | refine sim_op1 (none_m _) (fun _ h => nomatch h) fun r1 nr1 => ?_
  first | refine sim_joinBb ?_ fun x3 => ?_ | refine sim_joinBc ?_ fun x3 => ?_
  · skip
    (with_reducible repeat (first | refine sA ?_ | refine sB ?_ | refine sC ?_ | refine sD ?_ | refine sE ?_ | refine sF ?_))
    (first | refine qA (fun h => ?_) fun h => ?_ | refine qB (fun h => ?_) fun h => ?_ | refine qC (fun h => ?_) fun h => ?_ | refine qD (fun h => ?_) fun h => ?_ | refine qE (fun h => ?_) fun h => ?_) -- (!a3_may)
    · skip
      exact sim_outB _ rfl (by first | rfl | (simp only [Tok.kind] at *; simp_all))
    · skip
      (with_reducible repeat (first | refine sA ?_ | refine sB ?_ | refine sC ?_ | refine sD ?_ | refine sE ?_ | refine sF ?_))
      first | refine sim_op (is_m _ _) (fun _ h => nomatch h) fun r2 b => Sim.prop fun h => ?_ | refine sim_op1 (is_m _ _) (fun _ h => nomatch h) fun r2 b => Sim.prop fun h => ?_
      subst h
      exact sim_outB _ rfl (by first | rfl | (simp only [Tok.kind] at *; simp_all))
  · skip
    (with_reducible repeat (first | refine sA ?_ | refine sB ?_ | refine sC ?_ | refine sD ?_ | refine sE ?_ | refine sF ?_))
    (first | refine qA (fun h => ?_) fun h => ?_ | refine qB (fun h => ?_) fun h => ?_ | refine qC (fun h => ?_) fun h => ?_ | refine qD (fun h => ?_) fun h => ?_ | refine qE (fun h => ?_) fun h => ?_) -- x3.1
    · skip
      (with_reducible repeat (first | refine sA ?_ | refine sB ?_ | refine sC ?_ | refine sD ?_ | refine sE ?_ | refine sF ?_))
      first | refine sim_op (hR.expr _) (fun _ h => nomatch h) fun r4 nr4 => ?_ | refine sim_op1 (hR.expr _) (fun _ h => nomatch h) fun r4 nr4 => ?_
      (with_reducible repeat (first | refine sA ?_ | refine sB ?_ | refine sC ?_ | refine sD ?_ | refine sE ?_ | refine sF ?_))
      first | refine sim_op (must_m _ _) (fun _ h => nomatch h) fun x b => ?_ | refine sim_op1 (must_m _ _) (fun _ h => nomatch h) fun x b => ?_
      refine sim_node [r4] [nr4] rfl (by decide) (by decide) (by kernel_rfl) (fun F hF => (.cons _ _ _ _ (hF (NodeF nr4 r4) (by repeat (first | exact mz | apply ms))) .nil)) fun r7 => ?_
      (with_reducible repeat (first | refine sA ?_ | refine sB ?_ | refine sC ?_ | refine sD ?_ | refine sE ?_ | refine sF ?_))
      exact sim_ret1 (t := tP) _ rfl (fun F hF => hF _ (by repeat (first | exact mz | apply ms)))
    · skip
      (with_reducible repeat (first | refine sA ?_ | refine sB ?_ | refine sC ?_ | refine sD ?_ | refine sE ?_ | refine sF ?_))
      first | refine sim_op (must_m _ _) (fun _ h => nomatch h) fun x b => ?_ | refine sim_op1 (must_m _ _) (fun _ h => nomatch h) fun x b => ?_
      refine sim_node [r1] [nr1] rfl (by decide) (by decide) (by kernel_rfl) (fun F hF => (.cons _ _ _ _ (hF (NodeF nr1 r1) (by repeat (first | exact mz | apply ms))) .nil)) fun r10 => ?_
      (with_reducible repeat (first | refine sA ?_ | refine sB ?_ | refine sC ?_ | refine sD ?_ | refine sE ?_ | refine sF ?_))
      exact sim_ret1 (t := tP) _ rfl (fun F hF => hF _ (by repeat (first | exact mz | apply ms)))
theorem variable_m {R : PRec} (hR : PRecM R) (pb : Nat) (n : Int) (pos : Int) : Meets PG (PI pb) (callS F_parser_variable #[.pointer (some (pAt pb)), .int .i64 n, .int .i64 pos]) tP (variableS R n pos) NodeF [] := by
  refine c_parser_variable (pAt pb) n pos ?_
  unfold t_parser_variable variableS
  (with_reducible repeat (first | refine sA ?_ | refine sB ?_ | refine sC ?_ | refine sD ?_ | refine sE ?_ | refine sF ?_))
  first | refine sim_op (name_m _) (fun _ h => nomatch h) fun r1 b => Sim.prop fun h => ?_ | refine sim_op1 (name_m _) (fun _ h => nomatch h) fun r1 b => Sim.prop fun h => ?_
  subst h
  (with_reducible repeat (first | refine sA ?_ | refine sB ?_ | refine sC ?_ | refine sD ?_ | refine sE ?_ | refine sF ?_))
  first | refine sim_op (optional_m hR _) (fun _ h => nomatch h) fun r2 nr2 => ?_ | refine sim_op1 (optional_m hR _) (fun _ h => nomatch h) fun r2 nr2 => ?_
  (with_reducible repeat (first | refine sA ?_ | refine sB ?_ | refine sC ?_ | refine sD ?_ | refine sE ?_ | refine sF ?_))
  first | refine sim_op (must_m _ _) (fun _ h => nomatch h) fun x b => ?_ | refine sim_op1 (must_m _ _) (fun _ h => nomatch h) fun x b => ?_
  (with_reducible repeat (first | refine sA ?_ | refine sB ?_ | refine sC ?_ | refine sD ?_ | refine sE ?_ | refine sF ?_))
  first | refine sim_op (hR.expr _) (fun _ h => nomatch h) fun r4 nr4 => ?_ | refine sim_op1 (hR.expr _) (fun _ h => nomatch h) fun r4 nr4 => ?_
  refine sim_node [r2, r4] [nr2, nr4] rfl (by decide) (by decide) (by kernel_rfl) (fun F hF => (.cons _ _ _ _ (hF (NodeF nr2 r2) (by repeat (first | exact mz | apply ms))) (.cons _ _ _ _ (hF (NodeF nr4 r4) (by repeat (first | exact mz | apply ms))) .nil))) fun r6 => ?_
  (with_reducible repeat (first | refine sA ?_ | refine sB ?_ | refine sC ?_ | refine sD ?_ | refine sE ?_ | refine sF ?_))
  exact sim_ret1 (t := tP) _ rfl (fun F hF => hF _ (by repeat (first | exact mz | apply ms)))
theorem function_m {R : PRec} (hR : PRecM R) (pb : Nat) (kind : Int) (pos : Int) : Meets PG (PI pb) (callS F_parser_function #[.pointer (some (pAt pb)), .int .i64 kind, .int .i64 pos]) tP (functionS R kind pos) NodeF [] := by
  refine c_parser_function (pAt pb) kind pos ?_
  unfold t_parser_function functionS
  (with_reducible repeat (first | refine sA ?_ | refine sB ?_ | refine sC ?_ | refine sD ?_ | refine sE ?_ | refine sF ?_))
  first | refine sim_op (name_m _) (fun _ h => nomatch h) fun r1 b => Sim.prop fun h => ?_ | refine sim_op1 (name_m _) (fun _ h => nomatch h) fun r1 b => Sim.prop fun h => ?_
  subst h
  (with_reducible repeat (first | refine sA ?_ | refine sB ?_ | refine sC ?_ | refine sD ?_ | refine sE ?_ | refine sF ?_))
  first | refine sim_op (vars_m hR _) (fun _ h => nomatch h) fun r2 nr2 => ?_ | refine sim_op1 (vars_m hR _) (fun _ h => nomatch h) fun r2 nr2 => ?_
  (with_reducible repeat (first | refine sA ?_ | refine sB ?_ | refine sC ?_ | refine sD ?_ | refine sE ?_ | refine sF ?_))
  first | refine sim_op (must_m _ _) (fun _ h => nomatch h) fun x b => ?_ | refine sim_op1 (must_m _ _) (fun _ h => nomatch h) fun x b => ?_
  (with_reducible repeat (first | refine sA ?_ | refine sB ?_ | refine sC ?_ | refine sD ?_ | refine sE ?_ | refine sF ?_))
  first | refine sim_op (params_m hR _ _) (fun _ h => nomatch h) fun r4 nr4 => ?_ | refine sim_op1 (params_m hR _ _) (fun _ h => nomatch h) fun r4 nr4 => ?_
  (with_reducible repeat (first | refine sA ?_ | refine sB ?_ | refine sC ?_ | refine sD ?_ | refine sE ?_ | refine sF ?_))
  first | refine sim_op (must_m _ _) (fun _ h => nomatch h) fun x b => ?_ | refine sim_op1 (must_m _ _) (fun _ h => nomatch h) fun x b => ?_
  (with_reducible repeat (first | refine sA ?_ | refine sB ?_ | refine sC ?_ | refine sD ?_ | refine sE ?_ | refine sF ?_))
  first | refine sim_op (optional_m hR _) (fun _ h => nomatch h) fun r6 nr6 => ?_ | refine sim_op1 (optional_m hR _) (fun _ h => nomatch h) fun r6 nr6 => ?_
  (with_reducible repeat (first | refine sA ?_ | refine sB ?_ | refine sC ?_ | refine sD ?_ | refine sE ?_ | refine sF ?_))
  first | refine sim_op (hR.block _) (fun _ h => nomatch h) fun r7 nr7 => ?_ | refine sim_op1 (hR.block _) (fun _ h => nomatch h) fun r7 nr7 => ?_
  refine sim_node [r2, r4, r6, r7] [nr2, nr4, nr6, nr7] rfl (by decide) (by decide) (by kernel_rfl) (fun F hF => (.cons _ _ _ _ (hF (NodeF nr2 r2) (by repeat (first | exact mz | apply ms))) (.cons _ _ _ _ (hF (NodeF nr4 r4) (by repeat (first | exact mz | apply ms))) (.cons _ _ _ _ (hF (NodeF nr6 r6) (by repeat (first | exact mz | apply ms))) (.cons _ _ _ _ (hF (NodeF nr7 r7) (by repeat (first | exact mz | apply ms))) .nil))))) fun r9 => ?_
  (with_reducible repeat (first | refine sA ?_ | refine sB ?_ | refine sC ?_ | refine sD ?_ | refine sE ?_ | refine sF ?_))
  exact sim_ret1 (t := tP) _ rfl (fun F hF => hF _ (by repeat (first | exact mz | apply ms)))
theorem may_m {R : PRec} (hR : PRecM R) (pb b : Nat) (e : ByteArray) : Meets PG (PI pb) (callS F_parser_loop_1 #[.string e, .pointer (some (pAt b))]) tP (mayS R e) NodeF [Fact.at b (blk T_Psyntax_parser [.pointer (some (pAt pb))])] := by
  refine c_parser_loop_1 e (pAt b) ?_
  unfold t_parser_loop_1 mayS
  refine sim_ldF (b1 := .ptr) _ (by repeat (first | exact mz | apply ms)) (by kernel_rfl) rfl rfl ?_
  (with_reducible repeat (first | refine sA ?_ | refine sB ?_ | refine sC ?_ | refine sD ?_ | refine sE ?_ | refine sF ?_))
  first | refine sim_op (none_m _) (fun _ h => nomatch h) fun r2 nr2 => ?_ | refine sim_op1 (none_m _) (fun _ h => nomatch h) fun r2 nr2 => ?_
  refine sim_ldF (b1 := .ptr) _ (by repeat (first | exact mz | apply ms)) (by kernel_rfl) rfl rfl ?_
  (with_reducible repeat (first | refine sA ?_ | refine sB ?_ | refine sC ?_ | refine sD ?_ | refine sE ?_ | refine sF ?_))
  first | refine sim_op (is_m _ _) (fun _ h => nomatch h) fun r4 b => Sim.prop fun h => ?_ | refine sim_op1 (is_m _ _) (fun _ h => nomatch h) fun r4 b => Sim.prop fun h => ?_
  subst h
  (with_reducible repeat (first | refine sA ?_ | refine sB ?_ | refine sC ?_ | refine sD ?_ | refine sE ?_ | refine sF ?_))
  (first | refine qA (fun h => ?_) fun h => ?_ | refine qB (fun h => ?_) fun h => ?_ | refine qC (fun h => ?_) fun h => ?_ | refine qD (fun h => ?_) fun h => ?_ | refine qE (fun h => ?_) fun h => ?_) -- (!r4)
  · skip
    refine sim_ldF (b1 := .ptr) _ (by repeat (first | exact mz | apply ms)) (by kernel_rfl) rfl rfl ?_
    (with_reducible repeat (first | refine sA ?_ | refine sB ?_ | refine sC ?_ | refine sD ?_ | refine sE ?_ | refine sF ?_))
    first | refine sim_op (hR.expr _) (fun _ h => nomatch h) fun r6 nr6 => ?_ | refine sim_op1 (hR.expr _) (fun _ h => nomatch h) fun r6 nr6 => ?_
    refine sim_ldF (b1 := .ptr) _ (by repeat (first | exact mz | apply ms)) (by kernel_rfl) rfl rfl ?_
    (with_reducible repeat (first | refine sA ?_ | refine sB ?_ | refine sC ?_ | refine sD ?_ | refine sE ?_ | refine sF ?_))
    first | refine sim_op (must_m _ _) (fun _ h => nomatch h) fun x b => ?_ | refine sim_op1 (must_m _ _) (fun _ h => nomatch h) fun x b => ?_
    (with_reducible repeat (first | refine sA ?_ | refine sB ?_ | refine sC ?_ | refine sD ?_ | refine sE ?_ | refine sF ?_))
    exact sim_ret1 (t := tP) _ rfl (fun F hF => hF _ (by repeat (first | exact mz | apply ms)))
  · skip
    refine sim_ldF (b1 := .ptr) _ (by repeat (first | exact mz | apply ms)) (by kernel_rfl) rfl rfl ?_
    (with_reducible repeat (first | refine sA ?_ | refine sB ?_ | refine sC ?_ | refine sD ?_ | refine sE ?_ | refine sF ?_))
    first | refine sim_op (must_m _ _) (fun _ h => nomatch h) fun x b => ?_ | refine sim_op1 (must_m _ _) (fun _ h => nomatch h) fun x b => ?_
    (with_reducible repeat (first | refine sA ?_ | refine sB ?_ | refine sC ?_ | refine sD ?_ | refine sE ?_ | refine sF ?_))
    exact sim_ret1 (t := tP) _ rfl (fun F hF => hF _ (by repeat (first | exact mz | apply ms)))
theorem loop_m {R : PRec} (hR : PRecM R) (pb : Nat) (a1 : Int) : Meets PG (PI pb) (callS F_parser_loop #[.pointer (some (pAt pb)), .int .i64 a1]) tP (loopS R a1) NodeF [] := by
  refine c_parser_loop (pAt pb) a1 ?_
  unfold t_parser_loop loopS
  refine sim_boxF fun br1 => ?_
  refine sim_ldF (b1 := .ptr) _ (by repeat (first | exact mz | apply ms)) (by kernel_rfl) rfl rfl ?_
  (with_reducible repeat (first | refine sA ?_ | refine sB ?_ | refine sC ?_ | refine sD ?_ | refine sE ?_ | refine sF ?_))
  first | refine sim_op (must_m _ _) (fun _ h => nomatch h) fun x b => ?_ | refine sim_op1 (must_m _ _) (fun _ h => nomatch h) fun x b => ?_
  first | refine sim_joinBb ?_ fun x18 => ?_ | refine sim_joinBc ?_ fun x18 => ?_
  · skip
    refine sim_ldF (b1 := .ptr) _ (by repeat (first | exact mz | apply ms)) (by kernel_rfl) rfl rfl ?_
    (with_reducible repeat (first | refine sA ?_ | refine sB ?_ | refine sC ?_ | refine sD ?_ | refine sE ?_ | refine sF ?_))
    first | refine sim_op (is_m _ _) (fun _ h => nomatch h) fun r5 b => Sim.prop fun h => ?_ | refine sim_op1 (is_m _ _) (fun _ h => nomatch h) fun r5 b => Sim.prop fun h => ?_
    subst h
    (with_reducible repeat (first | refine sA ?_ | refine sB ?_ | refine sC ?_ | refine sD ?_ | refine sE ?_ | refine sF ?_))
    (first | refine qA (fun h => ?_) fun h => ?_ | refine qB (fun h => ?_) fun h => ?_ | refine qC (fun h => ?_) fun h => ?_ | refine qD (fun h => ?_) fun h => ?_ | refine qE (fun h => ?_) fun h => ?_) -- r5
    · skip
      refine sim_ldF (b1 := .ptr) _ (by repeat (first | exact mz | apply ms)) (by kernel_rfl) rfl rfl ?_
      (with_reducible repeat (first | refine sA ?_ | refine sB ?_ | refine sC ?_ | refine sD ?_ | refine sE ?_ | refine sF ?_))
      first | refine sim_op (then_m _ _ (by decide) (by decide)) (fun _ h => nomatch h) fun r7 b => Sim.prop fun h => ?_ | refine sim_op1 (then_m _ _ (by decide) (by decide)) (fun _ h => nomatch h) fun r7 b => Sim.prop fun h => ?_
      subst h
      (with_reducible repeat (first | refine sA ?_ | refine sB ?_ | refine sC ?_ | refine sD ?_ | refine sE ?_ | refine sF ?_))
      (first | refine qA (fun h => ?_) fun h => ?_ | refine qB (fun h => ?_) fun h => ?_ | refine qC (fun h => ?_) fun h => ?_ | refine qD (fun h => ?_) fun h => ?_ | refine qE (fun h => ?_) fun h => ?_) -- ((r7.1 : Int) == 1)
      · skip
        refine sim_ldF (b1 := .ptr) _ (by repeat (first | exact mz | apply ms)) (by kernel_rfl) rfl rfl ?_
        (with_reducible repeat (first | refine sA ?_ | refine sB ?_ | refine sC ?_ | refine sD ?_ | refine sE ?_ | refine sF ?_))
        first | refine sim_op (then_m _ _ (by decide) (by decide)) (fun _ h => nomatch h) fun r9 b => Sim.prop fun h => ?_ | refine sim_op1 (then_m _ _ (by decide) (by decide)) (fun _ h => nomatch h) fun r9 b => Sim.prop fun h => ?_
        subst h
        refine sim_val (says_m _ _ _) (fun _ h => nomatch h) ?_
        exact sim_outB _ rfl (by first | rfl | (simp only [Tok.kind] at *; simp_all))
      · skip
        exact sim_outB _ rfl (by first | rfl | (simp only [Tok.kind] at *; simp_all))
    · skip
      refine sim_ldF (b1 := .ptr) _ (by repeat (first | exact mz | apply ms)) (by kernel_rfl) rfl rfl ?_
      (with_reducible repeat (first | refine sA ?_ | refine sB ?_ | refine sC ?_ | refine sD ?_ | refine sE ?_ | refine sF ?_))
      first | refine sim_op (is_m _ _) (fun _ h => nomatch h) fun r12 b => Sim.prop fun h => ?_ | refine sim_op1 (is_m _ _) (fun _ h => nomatch h) fun r12 b => Sim.prop fun h => ?_
      subst h
      (with_reducible repeat (first | refine sA ?_ | refine sB ?_ | refine sC ?_ | refine sD ?_ | refine sE ?_ | refine sF ?_))
      (first | refine qA (fun h => ?_) fun h => ?_ | refine qB (fun h => ?_) fun h => ?_ | refine qC (fun h => ?_) fun h => ?_ | refine qD (fun h => ?_) fun h => ?_ | refine qE (fun h => ?_) fun h => ?_) -- r12
      · skip
        refine sim_ldF (b1 := .ptr) _ (by repeat (first | exact mz | apply ms)) (by kernel_rfl) rfl rfl ?_
        (with_reducible repeat (first | refine sA ?_ | refine sB ?_ | refine sC ?_ | refine sD ?_ | refine sE ?_ | refine sF ?_))
        first | refine sim_op (then_m _ _ (by decide) (by decide)) (fun _ h => nomatch h) fun r14 b => Sim.prop fun h => ?_ | refine sim_op1 (then_m _ _ (by decide) (by decide)) (fun _ h => nomatch h) fun r14 b => Sim.prop fun h => ?_
        subst h
        (with_reducible repeat (first | refine sA ?_ | refine sB ?_ | refine sC ?_ | refine sD ?_ | refine sE ?_ | refine sF ?_))
        (first | refine qA (fun h => ?_) fun h => ?_ | refine qB (fun h => ?_) fun h => ?_ | refine qC (fun h => ?_) fun h => ?_ | refine qD (fun h => ?_) fun h => ?_ | refine qE (fun h => ?_) fun h => ?_) -- ((r14.1 : Int) == 1)
        · skip
          refine sim_ldF (b1 := .ptr) _ (by repeat (first | exact mz | apply ms)) (by kernel_rfl) rfl rfl ?_
          (with_reducible repeat (first | refine sA ?_ | refine sB ?_ | refine sC ?_ | refine sD ?_ | refine sE ?_ | refine sF ?_))
          first | refine sim_op (then_m _ _ (by decide) (by decide)) (fun _ h => nomatch h) fun r16 b => Sim.prop fun h => ?_ | refine sim_op1 (then_m _ _ (by decide) (by decide)) (fun _ h => nomatch h) fun r16 b => Sim.prop fun h => ?_
          subst h
          refine sim_val (says_m _ _ _) (fun _ h => nomatch h) ?_
          exact sim_outB _ rfl (by first | rfl | (simp only [Tok.kind] at *; simp_all))
        · skip
          exact sim_outB _ rfl (by first | rfl | (simp only [Tok.kind] at *; simp_all))
      · skip
        exact sim_outB _ rfl (by first | rfl | (simp only [Tok.kind] at *; simp_all))
  · skip
    (with_reducible repeat (first | refine sA ?_ | refine sB ?_ | refine sC ?_ | refine sD ?_ | refine sE ?_ | refine sF ?_))
    (first | refine qA (fun h => ?_) fun h => ?_ | refine qB (fun h => ?_) fun h => ?_ | refine qC (fun h => ?_) fun h => ?_ | refine qD (fun h => ?_) fun h => ?_ | refine qE (fun h => ?_) fun h => ?_) -- x18.1
    · skip
      refine sim_ldF (b1 := .ptr) _ (by repeat (first | exact mz | apply ms)) (by kernel_rfl) rfl rfl ?_
      (with_reducible repeat (first | refine sA ?_ | refine sB ?_ | refine sC ?_ | refine sD ?_ | refine sE ?_ | refine sF ?_))
      first | refine sim_op (next_m _) (fun _ h => nomatch h) fun r20 b => Sim.prop fun h => ?_ | refine sim_op1 (next_m _) (fun _ h => nomatch h) fun r20 b => Sim.prop fun h => ?_
      subst h
      refine sim_joinIb ?_ fun x21 => ?_
      · skip
        (with_reducible repeat (first | refine sA ?_ | refine sB ?_ | refine sC ?_ | refine sD ?_ | refine sE ?_ | refine sF ?_))
        (first | refine qA (fun h => ?_) fun h => ?_ | refine qB (fun h => ?_) fun h => ?_ | refine qC (fun h => ?_) fun h => ?_ | refine qD (fun h => ?_) fun h => ?_ | refine qE (fun h => ?_) fun h => ?_) -- (r20.2.1.toList == kconst.toList)
        · skip
          exact sim_outI _ rfl rfl
        · skip
          exact sim_outI _ rfl rfl
      · skip
        refine sim_ldF (b1 := .ptr) _ (by repeat (first | exact mz | apply ms)) (by kernel_rfl) rfl rfl ?_
        (with_reducible repeat (first | refine sA ?_ | refine sB ?_ | refine sC ?_ | refine sD ?_ | refine sE ?_ | refine sF ?_))
        first | refine sim_op (name_m _) (fun _ h => nomatch h) fun r23 b => Sim.prop fun h => ?_ | refine sim_op1 (name_m _) (fun _ h => nomatch h) fun r23 b => Sim.prop fun h => ?_
        subst h
        refine sim_ldF (b1 := .ptr) _ (by repeat (first | exact mz | apply ms)) (by kernel_rfl) rfl rfl ?_
        (with_reducible repeat (first | refine sA ?_ | refine sB ?_ | refine sC ?_ | refine sD ?_ | refine sE ?_ | refine sF ?_))
        first | refine sim_op (must_m _ _) (fun _ h => nomatch h) fun x b => ?_ | refine sim_op1 (must_m _ _) (fun _ h => nomatch h) fun x b => ?_
        refine sim_ldF (b1 := .ptr) _ (by repeat (first | exact mz | apply ms)) (by kernel_rfl) rfl rfl ?_
        (with_reducible repeat (first | refine sA ?_ | refine sB ?_ | refine sC ?_ | refine sD ?_ | refine sE ?_ | refine sF ?_))
        first | refine sim_op (hR.expr _) (fun _ h => nomatch h) fun r27 nr27 => ?_ | refine sim_op1 (hR.expr _) (fun _ h => nomatch h) fun r27 nr27 => ?_
        refine sim_ldF (b1 := .ptr) _ (by repeat (first | exact mz | apply ms)) (by kernel_rfl) rfl rfl ?_
        (with_reducible repeat (first | refine sA ?_ | refine sB ?_ | refine sC ?_ | refine sD ?_ | refine sE ?_ | refine sF ?_))
        first | refine sim_op (must_m _ _) (fun _ h => nomatch h) fun x b => ?_ | refine sim_op1 (must_m _ _) (fun _ h => nomatch h) fun x b => ?_
        refine sim_ldF (b1 := .ptr) _ (by repeat (first | exact mz | apply ms)) (by kernel_rfl) rfl rfl ?_
        (with_reducible repeat (first | refine sA ?_ | refine sB ?_ | refine sC ?_ | refine sD ?_ | refine sE ?_ | refine sF ?_))
        first | refine sim_op (hR.block _) (fun _ h => nomatch h) fun r31 nr31 => ?_ | refine sim_op1 (hR.block _) (fun _ h => nomatch h) fun r31 nr31 => ?_
        refine sim_node [r27, r31] [nr27, nr31] rfl (by decide) (by decide) (by kernel_rfl) (fun F hF => (.cons _ _ _ _ (hF (NodeF nr27 r27) (by repeat (first | exact mz | apply ms))) (.cons _ _ _ _ (hF (NodeF nr31 r31) (by repeat (first | exact mz | apply ms))) .nil))) fun r33 => ?_
        (with_reducible repeat (first | refine sA ?_ | refine sB ?_ | refine sC ?_ | refine sD ?_ | refine sE ?_ | refine sF ?_))
        exact sim_ret1 (t := tP) _ rfl (fun F hF => hF _ (by repeat (first | exact mz | apply ms)))
    · skip
      refine sim_ldF (b1 := .ptr) _ (by repeat (first | exact mz | apply ms)) (by kernel_rfl) rfl rfl ?_
      (with_reducible repeat (first | refine sA ?_ | refine sB ?_ | refine sC ?_ | refine sD ?_ | refine sE ?_ | refine sF ?_))
      first | refine sim_op (none_m _) (fun _ h => nomatch h) fun r35 nr35 => ?_ | refine sim_op1 (none_m _) (fun _ h => nomatch h) fun r35 nr35 => ?_
      refine sim_ldF (b1 := .ptr) _ (by repeat (first | exact mz | apply ms)) (by kernel_rfl) rfl rfl ?_
      (with_reducible repeat (first | refine sA ?_ | refine sB ?_ | refine sC ?_ | refine sD ?_ | refine sE ?_ | refine sF ?_))
      first | refine sim_op (now_m _) (fun _ h => nomatch h) fun r37 b => Sim.prop fun h => ?_ | refine sim_op1 (now_m _) (fun _ h => nomatch h) fun r37 b => Sim.prop fun h => ?_
      subst h
      refine sim_ldF (b1 := .ptr) _ (by repeat (first | exact mz | apply ms)) (by kernel_rfl) rfl rfl ?_
      (with_reducible repeat (first | refine sA ?_ | refine sB ?_ | refine sC ?_ | refine sD ?_ | refine sE ?_ | refine sF ?_))
      first | refine sim_op (take_m _ _) (fun _ h => nomatch h) fun r39 b => Sim.prop fun h => ?_ | refine sim_op1 (take_m _ _) (fun _ h => nomatch h) fun r39 b => Sim.prop fun h => ?_
      subst h
      refine sim_joinPb NodeF ?_ fun nx42 x42 => ?_
      · skip
        (with_reducible repeat (first | refine sA ?_ | refine sB ?_ | refine sC ?_ | refine sD ?_ | refine sE ?_ | refine sF ?_))
        (first | refine qA (fun h => ?_) fun h => ?_ | refine qB (fun h => ?_) fun h => ?_ | refine qC (fun h => ?_) fun h => ?_ | refine qD (fun h => ?_) fun h => ?_ | refine qE (fun h => ?_) fun h => ?_) -- r39
        · skip
          refine sim_ldF (b1 := .ptr) _ (by repeat (first | exact mz | apply ms)) (by kernel_rfl) rfl rfl ?_
          (with_reducible repeat (first | refine sA ?_ | refine sB ?_ | refine sC ?_ | refine sD ?_ | refine sE ?_ | refine sF ?_))
          first | refine sim_op (variable_m hR _ _ _) (fun _ h => nomatch h) fun r41 nr41 => ?_ | refine sim_op1 (variable_m hR _ _ _) (fun _ h => nomatch h) fun r41 nr41 => ?_
          exact sim_outP _ rfl rfl (fun F hF => hF _ (by repeat (first | exact mz | apply ms)))
        · skip
          exact sim_outP _ rfl rfl (fun F hF => hF _ (by repeat (first | exact mz | apply ms)))
      · skip
        refine sim_ldF (b1 := .ptr) _ (by repeat (first | exact mz | apply ms)) (by kernel_rfl) rfl rfl ?_
        (with_reducible repeat (first | refine sA ?_ | refine sB ?_ | refine sC ?_ | refine sD ?_ | refine sE ?_ | refine sF ?_))
        first | refine sim_op (must_m _ _) (fun _ h => nomatch h) fun x b => ?_ | refine sim_op1 (must_m _ _) (fun _ h => nomatch h) fun x b => ?_
        refine sim_op (MeetsO.congr (run_callv4 _ _ _) (may_m hR pb _ k_semi)) (fun A hA => by obtain rfl := List.mem_singleton.1 hA; exact (by repeat (first | exact mz | apply ms))) fun r45 nr45 => ?_
        refine sim_op (MeetsO.congr (run_callv4 _ _ _) (may_m hR pb _ k_rp)) (fun A hA => by obtain rfl := List.mem_singleton.1 hA; exact (by repeat (first | exact mz | apply ms))) fun r46 nr46 => ?_
        refine sim_ldF (b1 := .ptr) _ (by repeat (first | exact mz | apply ms)) (by kernel_rfl) rfl rfl ?_
        (with_reducible repeat (first | refine sA ?_ | refine sB ?_ | refine sC ?_ | refine sD ?_ | refine sE ?_ | refine sF ?_))
        first | refine sim_op (hR.block _) (fun _ h => nomatch h) fun r48 nr48 => ?_ | refine sim_op1 (hR.block _) (fun _ h => nomatch h) fun r48 nr48 => ?_
        refine sim_node [x42, r45, r46, r48] [nx42, nr45, nr46, nr48] rfl (by decide) (by decide) (by kernel_rfl) (fun F hF => (.cons _ _ _ _ (hF (NodeF nx42 x42) (by repeat (first | exact mz | apply ms))) (.cons _ _ _ _ (hF (NodeF nr45 r45) (by repeat (first | exact mz | apply ms))) (.cons _ _ _ _ (hF (NodeF nr46 r46) (by repeat (first | exact mz | apply ms))) (.cons _ _ _ _ (hF (NodeF nr48 r48) (by repeat (first | exact mz | apply ms))) .nil))))) fun r50 => ?_
        (with_reducible repeat (first | refine sA ?_ | refine sB ?_ | refine sC ?_ | refine sD ?_ | refine sE ?_ | refine sF ?_))
        exact sim_ret1 (t := tP) _ rfl (fun F hF => hF _ (by repeat (first | exact mz | apply ms)))
theorem try_m {R : PRec} (hR : PRecM R) (pb : Nat) (pos : Int) : Meets PG (PI pb) (callS F_parser_try #[.pointer (some (pAt pb)), .int .i64 pos]) tP (tryS R pos) NodeF [] := by
  refine c_parser_try (pAt pb) pos ?_
  unfold t_parser_try tryS
  (with_reducible repeat (first | refine sA ?_ | refine sB ?_ | refine sC ?_ | refine sD ?_ | refine sE ?_ | refine sF ?_))
  first | refine sim_op (hR.block _) (fun _ h => nomatch h) fun r1 nr1 => ?_ | refine sim_op1 (hR.block _) (fun _ h => nomatch h) fun r1 nr1 => ?_
  (with_reducible repeat (first | refine sA ?_ | refine sB ?_ | refine sC ?_ | refine sD ?_ | refine sE ?_ | refine sF ?_))
  first | refine sim_op (none_m _) (fun _ h => nomatch h) fun r2 nr2 => ?_ | refine sim_op1 (none_m _) (fun _ h => nomatch h) fun r2 nr2 => ?_
  (with_reducible repeat (first | refine sA ?_ | refine sB ?_ | refine sC ?_ | refine sD ?_ | refine sE ?_ | refine sF ?_))
  first | refine sim_op (now_m _) (fun _ h => nomatch h) fun r3 b => Sim.prop fun h => ?_ | refine sim_op1 (now_m _) (fun _ h => nomatch h) fun r3 b => Sim.prop fun h => ?_
  subst h
  (with_reducible repeat (first | refine sA ?_ | refine sB ?_ | refine sC ?_ | refine sD ?_ | refine sE ?_ | refine sF ?_))
  first | refine sim_op (take_m _ _) (fun _ h => nomatch h) fun r4 b => Sim.prop fun h => ?_ | refine sim_op1 (take_m _ _) (fun _ h => nomatch h) fun r4 b => Sim.prop fun h => ?_
  subst h
  refine sim_joinPb NodeF ?_ fun nx11 x11 => ?_
  · skip
    (with_reducible repeat (first | refine sA ?_ | refine sB ?_ | refine sC ?_ | refine sD ?_ | refine sE ?_ | refine sF ?_))
    (first | refine qA (fun h => ?_) fun h => ?_ | refine qB (fun h => ?_) fun h => ?_ | refine qC (fun h => ?_) fun h => ?_ | refine qD (fun h => ?_) fun h => ?_ | refine qE (fun h => ?_) fun h => ?_) -- r4
    · skip
      (with_reducible repeat (first | refine sA ?_ | refine sB ?_ | refine sC ?_ | refine sD ?_ | refine sE ?_ | refine sF ?_))
      first | refine sim_op (must_m _ _) (fun _ h => nomatch h) fun x b => ?_ | refine sim_op1 (must_m _ _) (fun _ h => nomatch h) fun x b => ?_
      (with_reducible repeat (first | refine sA ?_ | refine sB ?_ | refine sC ?_ | refine sD ?_ | refine sE ?_ | refine sF ?_))
      first | refine sim_op (name_m _) (fun _ h => nomatch h) fun r6 b => Sim.prop fun h => ?_ | refine sim_op1 (name_m _) (fun _ h => nomatch h) fun r6 b => Sim.prop fun h => ?_
      subst h
      (with_reducible repeat (first | refine sA ?_ | refine sB ?_ | refine sC ?_ | refine sD ?_ | refine sE ?_ | refine sF ?_))
      first | refine sim_op (must_m _ _) (fun _ h => nomatch h) fun x b => ?_ | refine sim_op1 (must_m _ _) (fun _ h => nomatch h) fun x b => ?_
      (with_reducible repeat (first | refine sA ?_ | refine sB ?_ | refine sC ?_ | refine sD ?_ | refine sE ?_ | refine sF ?_))
      first | refine sim_op (hR.block _) (fun _ h => nomatch h) fun r8 nr8 => ?_ | refine sim_op1 (hR.block _) (fun _ h => nomatch h) fun r8 nr8 => ?_
      refine sim_node [r8] [nr8] rfl (by decide) (by decide) (by kernel_rfl) (fun F hF => (.cons _ _ _ _ (hF (NodeF nr8 r8) (by repeat (first | exact mz | apply ms))) .nil)) fun r10 => ?_
      exact sim_outP _ rfl rfl (fun F hF => hF _ (by repeat (first | exact mz | apply ms)))
    · skip
      exact sim_outP _ rfl rfl (fun F hF => hF _ (by repeat (first | exact mz | apply ms)))
  · skip
    (with_reducible repeat (first | refine sA ?_ | refine sB ?_ | refine sC ?_ | refine sD ?_ | refine sE ?_ | refine sF ?_))
    first | refine sim_op (none_m _) (fun _ h => nomatch h) fun r12 nr12 => ?_ | refine sim_op1 (none_m _) (fun _ h => nomatch h) fun r12 nr12 => ?_
    (with_reducible repeat (first | refine sA ?_ | refine sB ?_ | refine sC ?_ | refine sD ?_ | refine sE ?_ | refine sF ?_))
    first | refine sim_op (take_m _ _) (fun _ h => nomatch h) fun r13 b => Sim.prop fun h => ?_ | refine sim_op1 (take_m _ _) (fun _ h => nomatch h) fun r13 b => Sim.prop fun h => ?_
    subst h
    refine sim_joinPb NodeF ?_ fun nx15 x15 => ?_
    · skip
      (with_reducible repeat (first | refine sA ?_ | refine sB ?_ | refine sC ?_ | refine sD ?_ | refine sE ?_ | refine sF ?_))
      (first | refine qA (fun h => ?_) fun h => ?_ | refine qB (fun h => ?_) fun h => ?_ | refine qC (fun h => ?_) fun h => ?_ | refine qD (fun h => ?_) fun h => ?_ | refine qE (fun h => ?_) fun h => ?_) -- r13
      · skip
        (with_reducible repeat (first | refine sA ?_ | refine sB ?_ | refine sC ?_ | refine sD ?_ | refine sE ?_ | refine sF ?_))
        first | refine sim_op (hR.block _) (fun _ h => nomatch h) fun r14 nr14 => ?_ | refine sim_op1 (hR.block _) (fun _ h => nomatch h) fun r14 nr14 => ?_
        exact sim_outP _ rfl rfl (fun F hF => hF _ (by repeat (first | exact mz | apply ms)))
      · skip
        exact sim_outP _ rfl rfl (fun F hF => hF _ (by repeat (first | exact mz | apply ms)))
    · skip
      first | refine sim_joinBb ?_ fun x20 => ?_ | refine sim_joinBc ?_ fun x20 => ?_
      · skip
        refine sim_kind (by repeat (first | exact mz | apply ms)) ?_
        (with_reducible repeat (first | refine sA ?_ | refine sB ?_ | refine sC ?_ | refine sD ?_ | refine sE ?_ | refine sF ?_))
        refine qE (fun hy => ?_) (fun hy => ?_)
        · skip
          refine sim_kind (by repeat (first | exact mz | apply ms)) ?_
          exact sim_outB _ rfl (by show cond (_ && _) _ _ = _; rw [show (N.kind _ == 1) = true from hy]; rfl)
        · skip
          exact sim_outB _ rfl (by show cond (_ && _) _ _ = _; rw [show (N.kind _ == 1) = false from hy]; rfl)
      · skip
        (with_reducible repeat (first | refine sA ?_ | refine sB ?_ | refine sC ?_ | refine sD ?_ | refine sE ?_ | refine sF ?_))
        (first | refine qA (fun h => ?_) fun h => ?_ | refine qB (fun h => ?_) fun h => ?_ | refine qC (fun h => ?_) fun h => ?_ | refine qD (fun h => ?_) fun h => ?_ | refine qE (fun h => ?_) fun h => ?_) -- x20.1
        · skip
          exact sim_fails (β1 := Unit) (Rel1 := fun _ _ _ => Fact.prop True) (fail_m _) (fun _ h => nomatch h) (by first | exact errs_fail | exact errs_failb _)
        · skip
          refine sim_node [r1, x11, x15] [nr1, nx11, nx15] rfl (by decide) (by decide) (by kernel_rfl) (fun F hF => (.cons _ _ _ _ (hF (NodeF nr1 r1) (by repeat (first | exact mz | apply ms))) (.cons _ _ _ _ (hF (NodeF nx11 x11) (by repeat (first | exact mz | apply ms))) (.cons _ _ _ _ (hF (NodeF nx15 x15) (by repeat (first | exact mz | apply ms))) .nil)))) fun r25 => ?_
          (with_reducible repeat (first | refine sA ?_ | refine sB ?_ | refine sC ?_ | refine sD ?_ | refine sE ?_ | refine sF ?_))
          exact sim_ret1 (t := tP) _ rfl (fun F hF => hF _ (by repeat (first | exact mz | apply ms)))
theorem branch_m {R : PRec} (hR : PRecM R) (pb : Nat) : Meets PG (PI pb) (callS F_parser_branch #[.pointer (some (pAt pb))]) tP (branchS R) NodeF [] := by
  refine c_parser_branch (pAt pb) ?_
  unfold t_parser_branch branchS
  (with_reducible repeat (first | refine sA ?_ | refine sB ?_ | refine sC ?_ | refine sD ?_ | refine sE ?_ | refine sF ?_))
  first | refine sim_op (now_m _) (fun _ h => nomatch h) fun r1 b => Sim.prop fun h => ?_ | refine sim_op1 (now_m _) (fun _ h => nomatch h) fun r1 b => Sim.prop fun h => ?_
  subst h
  (with_reducible repeat (first | refine sA ?_ | refine sB ?_ | refine sC ?_ | refine sD ?_ | refine sE ?_ | refine sF ?_))
  first | refine sim_op (must_m _ _) (fun _ h => nomatch h) fun x b => ?_ | refine sim_op1 (must_m _ _) (fun _ h => nomatch h) fun x b => ?_
  (with_reducible repeat (first | refine sA ?_ | refine sB ?_ | refine sC ?_ | refine sD ?_ | refine sE ?_ | refine sF ?_))
  first | refine sim_op (round_m hR _) (fun _ h => nomatch h) fun r3 nr3 => ?_ | refine sim_op1 (round_m hR _) (fun _ h => nomatch h) fun r3 nr3 => ?_
  (with_reducible repeat (first | refine sA ?_ | refine sB ?_ | refine sC ?_ | refine sD ?_ | refine sE ?_ | refine sF ?_))
  first | refine sim_op (hR.block _) (fun _ h => nomatch h) fun r4 nr4 => ?_ | refine sim_op1 (hR.block _) (fun _ h => nomatch h) fun r4 nr4 => ?_
  (with_reducible repeat (first | refine sA ?_ | refine sB ?_ | refine sC ?_ | refine sD ?_ | refine sE ?_ | refine sF ?_))
  first | refine sim_op (none_m _) (fun _ h => nomatch h) fun r5 nr5 => ?_ | refine sim_op1 (none_m _) (fun _ h => nomatch h) fun r5 nr5 => ?_
  (with_reducible repeat (first | refine sA ?_ | refine sB ?_ | refine sC ?_ | refine sD ?_ | refine sE ?_ | refine sF ?_))
  first | refine sim_op (take_m _ _) (fun _ h => nomatch h) fun r6 b => Sim.prop fun h => ?_ | refine sim_op1 (take_m _ _) (fun _ h => nomatch h) fun r6 b => Sim.prop fun h => ?_
  subst h
  (with_reducible repeat (first | refine sA ?_ | refine sB ?_ | refine sC ?_ | refine sD ?_ | refine sE ?_ | refine sF ?_))
  (first | refine qA (fun h => ?_) fun h => ?_ | refine qB (fun h => ?_) fun h => ?_ | refine qC (fun h => ?_) fun h => ?_ | refine qD (fun h => ?_) fun h => ?_ | refine qE (fun h => ?_) fun h => ?_) -- r6
  · skip
    (with_reducible repeat (first | refine sA ?_ | refine sB ?_ | refine sC ?_ | refine sD ?_ | refine sE ?_ | refine sF ?_))
    first | refine sim_op (is_m _ _) (fun _ h => nomatch h) fun r7 b => Sim.prop fun h => ?_ | refine sim_op1 (is_m _ _) (fun _ h => nomatch h) fun r7 b => Sim.prop fun h => ?_
    subst h
    (with_reducible repeat (first | refine sA ?_ | refine sB ?_ | refine sC ?_ | refine sD ?_ | refine sE ?_ | refine sF ?_))
    (first | refine qA (fun h => ?_) fun h => ?_ | refine qB (fun h => ?_) fun h => ?_ | refine qC (fun h => ?_) fun h => ?_ | refine qD (fun h => ?_) fun h => ?_ | refine qE (fun h => ?_) fun h => ?_) -- r7
    · skip
      (with_reducible repeat (first | refine sA ?_ | refine sB ?_ | refine sC ?_ | refine sD ?_ | refine sE ?_ | refine sF ?_))
      first | refine sim_op (hR.branch _) (fun _ h => nomatch h) fun r8 nr8 => ?_ | refine sim_op1 (hR.branch _) (fun _ h => nomatch h) fun r8 nr8 => ?_
      refine sim_node [r3, r4, r8] [nr3, nr4, nr8] rfl (by decide) (by decide) (by kernel_rfl) (fun F hF => (.cons _ _ _ _ (hF (NodeF nr3 r3) (by repeat (first | exact mz | apply ms))) (.cons _ _ _ _ (hF (NodeF nr4 r4) (by repeat (first | exact mz | apply ms))) (.cons _ _ _ _ (hF (NodeF nr8 r8) (by repeat (first | exact mz | apply ms))) .nil)))) fun r10 => ?_
      (with_reducible repeat (first | refine sA ?_ | refine sB ?_ | refine sC ?_ | refine sD ?_ | refine sE ?_ | refine sF ?_))
      exact sim_ret1 (t := tP) _ rfl (fun F hF => hF _ (by repeat (first | exact mz | apply ms)))
    · skip
      (with_reducible repeat (first | refine sA ?_ | refine sB ?_ | refine sC ?_ | refine sD ?_ | refine sE ?_ | refine sF ?_))
      first | refine sim_op (hR.block _) (fun _ h => nomatch h) fun r11 nr11 => ?_ | refine sim_op1 (hR.block _) (fun _ h => nomatch h) fun r11 nr11 => ?_
      refine sim_node [r3, r4, r11] [nr3, nr4, nr11] rfl (by decide) (by decide) (by kernel_rfl) (fun F hF => (.cons _ _ _ _ (hF (NodeF nr3 r3) (by repeat (first | exact mz | apply ms))) (.cons _ _ _ _ (hF (NodeF nr4 r4) (by repeat (first | exact mz | apply ms))) (.cons _ _ _ _ (hF (NodeF nr11 r11) (by repeat (first | exact mz | apply ms))) .nil)))) fun r13 => ?_
      (with_reducible repeat (first | refine sA ?_ | refine sB ?_ | refine sC ?_ | refine sD ?_ | refine sE ?_ | refine sF ?_))
      exact sim_ret1 (t := tP) _ rfl (fun F hF => hF _ (by repeat (first | exact mz | apply ms)))
  · skip
    refine sim_node [r3, r4, r5] [nr3, nr4, nr5] rfl (by decide) (by decide) (by kernel_rfl) (fun F hF => (.cons _ _ _ _ (hF (NodeF nr3 r3) (by repeat (first | exact mz | apply ms))) (.cons _ _ _ _ (hF (NodeF nr4 r4) (by repeat (first | exact mz | apply ms))) (.cons _ _ _ _ (hF (NodeF nr5 r5) (by repeat (first | exact mz | apply ms))) .nil)))) fun r15 => ?_
    (with_reducible repeat (first | refine sA ?_ | refine sB ?_ | refine sC ?_ | refine sD ?_ | refine sE ?_ | refine sF ?_))
    exact sim_ret1 (t := tP) _ rfl (fun F hF => hF _ (by repeat (first | exact mz | apply ms)))
theorem part_m {R : PRec} (hR : PRecM R) (pb : Nat) : Meets PG (PI pb) (callS F_parser_part #[.pointer (some (pAt pb))]) tP (partS R) NodeF [] := by
  refine c_parser_part (pAt pb) ?_
  unfold t_parser_part partS
  (with_reducible repeat (first | refine sA ?_ | refine sB ?_ | refine sC ?_ | refine sD ?_ | refine sE ?_ | refine sF ?_))
  first | refine sim_op (now_m _) (fun _ h => nomatch h) fun r1 b => Sim.prop fun h => ?_ | refine sim_op1 (now_m _) (fun _ h => nomatch h) fun r1 b => Sim.prop fun h => ?_
  subst h
  (with_reducible repeat (first | refine sA ?_ | refine sB ?_ | refine sC ?_ | refine sD ?_ | refine sE ?_ | refine sF ?_))
  first | refine sim_op (take_m _ _) (fun _ h => nomatch h) fun r2 b => Sim.prop fun h => ?_ | refine sim_op1 (take_m _ _) (fun _ h => nomatch h) fun r2 b => Sim.prop fun h => ?_
  subst h
  (with_reducible repeat (first | refine sA ?_ | refine sB ?_ | refine sC ?_ | refine sD ?_ | refine sE ?_ | refine sF ?_))
  (first | refine qA (fun h => ?_) fun h => ?_ | refine qB (fun h => ?_) fun h => ?_ | refine qC (fun h => ?_) fun h => ?_ | refine qD (fun h => ?_) fun h => ?_ | refine qE (fun h => ?_) fun h => ?_) -- r2
  · skip
    (with_reducible repeat (first | refine sA ?_ | refine sB ?_ | refine sC ?_ | refine sD ?_ | refine sE ?_ | refine sF ?_))
    first | refine sim_op (must_m _ _) (fun _ h => nomatch h) fun x b => ?_ | refine sim_op1 (must_m _ _) (fun _ h => nomatch h) fun x b => ?_
    (with_reducible repeat (first | refine sA ?_ | refine sB ?_ | refine sC ?_ | refine sD ?_ | refine sE ?_ | refine sF ?_))
    first | refine sim_op (params_m hR _ _) (fun _ h => nomatch h) fun r4 nr4 => ?_ | refine sim_op1 (params_m hR _ _) (fun _ h => nomatch h) fun r4 nr4 => ?_
    (with_reducible repeat (first | refine sA ?_ | refine sB ?_ | refine sC ?_ | refine sD ?_ | refine sE ?_ | refine sF ?_))
    first | refine sim_op (must_m _ _) (fun _ h => nomatch h) fun x b => ?_ | refine sim_op1 (must_m _ _) (fun _ h => nomatch h) fun x b => ?_
    (with_reducible repeat (first | refine sA ?_ | refine sB ?_ | refine sC ?_ | refine sD ?_ | refine sE ?_ | refine sF ?_))
    first | refine sim_op (hR.block _) (fun _ h => nomatch h) fun r6 nr6 => ?_ | refine sim_op1 (hR.block _) (fun _ h => nomatch h) fun r6 nr6 => ?_
    refine sim_node [r4, r6] [nr4, nr6] rfl (by decide) (by decide) (by kernel_rfl) (fun F hF => (.cons _ _ _ _ (hF (NodeF nr4 r4) (by repeat (first | exact mz | apply ms))) (.cons _ _ _ _ (hF (NodeF nr6 r6) (by repeat (first | exact mz | apply ms))) .nil))) fun r8 => ?_
    (with_reducible repeat (first | refine sA ?_ | refine sB ?_ | refine sC ?_ | refine sD ?_ | refine sE ?_ | refine sF ?_))
    exact sim_ret1 (t := tP) _ rfl (fun F hF => hF _ (by repeat (first | exact mz | apply ms)))
  · skip
    (with_reducible repeat (first | refine sA ?_ | refine sB ?_ | refine sC ?_ | refine sD ?_ | refine sE ?_ | refine sF ?_))
    first | refine sim_op (then_m _ _ (by decide) (by decide)) (fun _ h => nomatch h) fun r9 b => Sim.prop fun h => ?_ | refine sim_op1 (then_m _ _ (by decide) (by decide)) (fun _ h => nomatch h) fun r9 b => Sim.prop fun h => ?_
    subst h
    refine sim_varF (c := true) (z := [.int .i64 0, .string kE, .int .i64 0, .int .i64 0]) (by kernel_rfl) (by kernel_rfl) rfl (by simp [Value.cells, Value.oneCell']) fun br10 => ?_
    first | refine sim_joinBb ?_ fun x17 => ?_ | refine sim_joinBc ?_ fun x17 => ?_
    · skip
      (with_reducible repeat (first | refine sA ?_ | refine sB ?_ | refine sC ?_ | refine sD ?_ | refine sE ?_ | refine sF ?_))
      first | refine sim_op (now_m _) (fun _ h => nomatch h) fun r12 b => Sim.prop fun h => ?_ | refine sim_op1 (now_m _) (fun _ h => nomatch h) fun r12 b => Sim.prop fun h => ?_
      subst h
      (with_reducible repeat (first | refine sA ?_ | refine sB ?_ | refine sC ?_ | refine sD ?_ | refine sE ?_ | refine sF ?_))
      (first | refine qA (fun h => ?_) fun h => ?_ | refine qB (fun h => ?_) fun h => ?_ | refine qC (fun h => ?_) fun h => ?_ | refine qD (fun h => ?_) fun h => ?_ | refine qE (fun h => ?_) fun h => ?_) -- ((r12.1 : Int) == 1)
      · skip
        refine sim_ldFA (bs := bsTok) (_, _, _, _, ()) (by repeat (first | exact mz | apply ms)) (by kernel_rfl) rfl rfl ?_
        refine sim_val (says_m _ _ _) (fun _ h => nomatch h) ?_
        (with_reducible repeat (first | refine sA ?_ | refine sB ?_ | refine sC ?_ | refine sD ?_ | refine sE ?_ | refine sF ?_))
        (first | refine qA (fun h => ?_) fun h => ?_ | refine qB (fun h => ?_) fun h => ?_ | refine qC (fun h => ?_) fun h => ?_ | refine qD (fun h => ?_) fun h => ?_ | refine qE (fun h => ?_) fun h => ?_) -- r14
        · skip
          exact sim_outB _ rfl (by first | rfl | (simp only [Tok.kind] at *; simp_all))
        · skip
          refine sim_ldFA (bs := bsTok) (_, _, _, _, ()) (by repeat (first | exact mz | apply ms)) (by kernel_rfl) rfl rfl ?_
          refine sim_val (says_m _ _ _) (fun _ h => nomatch h) ?_
          exact sim_outB _ rfl (by first | rfl | (simp only [Tok.kind] at *; simp_all))
      · skip
        exact sim_outB _ rfl (by first | rfl | (simp only [Tok.kind] at *; simp_all))
    · skip
      (with_reducible repeat (first | refine sA ?_ | refine sB ?_ | refine sC ?_ | refine sD ?_ | refine sE ?_ | refine sF ?_))
      (first | refine qA (fun h => ?_) fun h => ?_ | refine qB (fun h => ?_) fun h => ?_ | refine qC (fun h => ?_) fun h => ?_ | refine qD (fun h => ?_) fun h => ?_ | refine qE (fun h => ?_) fun h => ?_) -- x17.1
      · skip
        (with_reducible repeat (first | refine sA ?_ | refine sB ?_ | refine sC ?_ | refine sD ?_ | refine sE ?_ | refine sF ?_))
        first | refine sim_op (function_m hR _ _ _) (fun _ h => nomatch h) fun r18 nr18 => ?_ | refine sim_op1 (function_m hR _ _ _) (fun _ h => nomatch h) fun r18 nr18 => ?_
        (with_reducible repeat (first | refine sA ?_ | refine sB ?_ | refine sC ?_ | refine sD ?_ | refine sE ?_ | refine sF ?_))
        exact sim_ret1 (t := tP) _ rfl (fun F hF => hF _ (by repeat (first | exact mz | apply ms)))
      · skip
        (with_reducible repeat (first | refine sA ?_ | refine sB ?_ | refine sC ?_ | refine sD ?_ | refine sE ?_ | refine sF ?_))
        first | refine sim_op (take_m _ _) (fun _ h => nomatch h) fun r19 b => Sim.prop fun h => ?_ | refine sim_op1 (take_m _ _) (fun _ h => nomatch h) fun r19 b => Sim.prop fun h => ?_
        subst h
        refine sim_joinIb ?_ fun x20 => ?_
        · skip
          (with_reducible repeat (first | refine sA ?_ | refine sB ?_ | refine sC ?_ | refine sD ?_ | refine sE ?_ | refine sF ?_))
          (first | refine qA (fun h => ?_) fun h => ?_ | refine qB (fun h => ?_) fun h => ?_ | refine qC (fun h => ?_) fun h => ?_ | refine qD (fun h => ?_) fun h => ?_ | refine qE (fun h => ?_) fun h => ?_) -- r19
          · skip
            exact sim_outI _ rfl rfl
          · skip
            exact sim_outI _ rfl rfl
        · skip
          (with_reducible repeat (first | refine sA ?_ | refine sB ?_ | refine sC ?_ | refine sD ?_ | refine sE ?_ | refine sF ?_))
          first | refine sim_op (name_m _) (fun _ h => nomatch h) fun r21 b => Sim.prop fun h => ?_ | refine sim_op1 (name_m _) (fun _ h => nomatch h) fun r21 b => Sim.prop fun h => ?_
          subst h
          (with_reducible repeat (first | refine sA ?_ | refine sB ?_ | refine sC ?_ | refine sD ?_ | refine sE ?_ | refine sF ?_))
          first | refine sim_op (optional_m hR _) (fun _ h => nomatch h) fun r22 nr22 => ?_ | refine sim_op1 (optional_m hR _) (fun _ h => nomatch h) fun r22 nr22 => ?_
          (with_reducible repeat (first | refine sA ?_ | refine sB ?_ | refine sC ?_ | refine sD ?_ | refine sE ?_ | refine sF ?_))
          first | refine sim_op (none_m _) (fun _ h => nomatch h) fun r23 nr23 => ?_ | refine sim_op1 (none_m _) (fun _ h => nomatch h) fun r23 nr23 => ?_
          (with_reducible repeat (first | refine sA ?_ | refine sB ?_ | refine sC ?_ | refine sD ?_ | refine sE ?_ | refine sF ?_))
          first | refine sim_op (take_m _ _) (fun _ h => nomatch h) fun r24 b => Sim.prop fun h => ?_ | refine sim_op1 (take_m _ _) (fun _ h => nomatch h) fun r24 b => Sim.prop fun h => ?_
          subst h
          (with_reducible repeat (first | refine sA ?_ | refine sB ?_ | refine sC ?_ | refine sD ?_ | refine sE ?_ | refine sF ?_))
          (first | refine qA (fun h => ?_) fun h => ?_ | refine qB (fun h => ?_) fun h => ?_ | refine qC (fun h => ?_) fun h => ?_ | refine qD (fun h => ?_) fun h => ?_ | refine qE (fun h => ?_) fun h => ?_) -- r24
          · skip
            (with_reducible repeat (first | refine sA ?_ | refine sB ?_ | refine sC ?_ | refine sD ?_ | refine sE ?_ | refine sF ?_))
            first | refine sim_op (hR.expr _) (fun _ h => nomatch h) fun r25 nr25 => ?_ | refine sim_op1 (hR.expr _) (fun _ h => nomatch h) fun r25 nr25 => ?_
            (with_reducible repeat (first | refine sA ?_ | refine sB ?_ | refine sC ?_ | refine sD ?_ | refine sE ?_ | refine sF ?_))
            first | refine sim_op (must_m _ _) (fun _ h => nomatch h) fun x b => ?_ | refine sim_op1 (must_m _ _) (fun _ h => nomatch h) fun x b => ?_
            refine sim_node [r22, r25] [nr22, nr25] rfl (by decide) (by decide) (by kernel_rfl) (fun F hF => (.cons _ _ _ _ (hF (NodeF nr22 r22) (by repeat (first | exact mz | apply ms))) (.cons _ _ _ _ (hF (NodeF nr25 r25) (by repeat (first | exact mz | apply ms))) .nil))) fun r28 => ?_
            (with_reducible repeat (first | refine sA ?_ | refine sB ?_ | refine sC ?_ | refine sD ?_ | refine sE ?_ | refine sF ?_))
            exact sim_ret1 (t := tP) _ rfl (fun F hF => hF _ (by repeat (first | exact mz | apply ms)))
          · skip
            (with_reducible repeat (first | refine sA ?_ | refine sB ?_ | refine sC ?_ | refine sD ?_ | refine sE ?_ | refine sF ?_))
            first | refine sim_op (must_m _ _) (fun _ h => nomatch h) fun x b => ?_ | refine sim_op1 (must_m _ _) (fun _ h => nomatch h) fun x b => ?_
            refine sim_node [r22, r23] [nr22, nr23] rfl (by decide) (by decide) (by kernel_rfl) (fun F hF => (.cons _ _ _ _ (hF (NodeF nr22 r22) (by repeat (first | exact mz | apply ms))) (.cons _ _ _ _ (hF (NodeF nr23 r23) (by repeat (first | exact mz | apply ms))) .nil))) fun r31 => ?_
            (with_reducible repeat (first | refine sA ?_ | refine sB ?_ | refine sC ?_ | refine sD ?_ | refine sE ?_ | refine sF ?_))
            exact sim_ret1 (t := tP) _ rfl (fun F hF => hF _ (by repeat (first | exact mz | apply ms)))
theorem class_m {R : PRec} (hR : PRecM R) (pb : Nat) (a1 : Int) : Meets PG (PI pb) (callS F_parser_class #[.pointer (some (pAt pb)), .int .i64 a1]) tP (classS R a1) NodeF [] := by
  refine c_parser_class (pAt pb) a1 ?_
  unfold t_parser_class classS
  (with_reducible repeat (first | refine sA ?_ | refine sB ?_ | refine sC ?_ | refine sD ?_ | refine sE ?_ | refine sF ?_))
  first | refine sim_op (name_m _) (fun _ h => nomatch h) fun r1 b => Sim.prop fun h => ?_ | refine sim_op1 (name_m _) (fun _ h => nomatch h) fun r1 b => Sim.prop fun h => ?_
  subst h
  (with_reducible repeat (first | refine sA ?_ | refine sB ?_ | refine sC ?_ | refine sD ?_ | refine sE ?_ | refine sF ?_))
  first | refine sim_op (vars_m hR _) (fun _ h => nomatch h) fun r2 nr2 => ?_ | refine sim_op1 (vars_m hR _) (fun _ h => nomatch h) fun r2 nr2 => ?_
  (with_reducible repeat (first | refine sA ?_ | refine sB ?_ | refine sC ?_ | refine sD ?_ | refine sE ?_ | refine sF ?_))
  first | refine sim_op (none_m _) (fun _ h => nomatch h) fun r3 nr3 => ?_ | refine sim_op1 (none_m _) (fun _ h => nomatch h) fun r3 nr3 => ?_
  (with_reducible repeat (first | refine sA ?_ | refine sB ?_ | refine sC ?_ | refine sD ?_ | refine sE ?_ | refine sF ?_))
  first | refine sim_op (now_m _) (fun _ h => nomatch h) fun r4 b => Sim.prop fun h => ?_ | refine sim_op1 (now_m _) (fun _ h => nomatch h) fun r4 b => Sim.prop fun h => ?_
  subst h
  (with_reducible repeat (first | refine sA ?_ | refine sB ?_ | refine sC ?_ | refine sD ?_ | refine sE ?_ | refine sF ?_))
  first | refine sim_op (take_m _ _) (fun _ h => nomatch h) fun r5 b => Sim.prop fun h => ?_ | refine sim_op1 (take_m _ _) (fun _ h => nomatch h) fun r5 b => Sim.prop fun h => ?_
  subst h
  refine sim_joinPb NodeF ?_ fun nx10 x10 => ?_
  · skip
    (with_reducible repeat (first | refine sA ?_ | refine sB ?_ | refine sC ?_ | refine sD ?_ | refine sE ?_ | refine sF ?_))
    (first | refine qA (fun h => ?_) fun h => ?_ | refine qB (fun h => ?_) fun h => ?_ | refine qC (fun h => ?_) fun h => ?_ | refine qD (fun h => ?_) fun h => ?_ | refine qE (fun h => ?_) fun h => ?_) -- r5
    · skip
      (with_reducible repeat (first | refine sA ?_ | refine sB ?_ | refine sC ?_ | refine sD ?_ | refine sE ?_ | refine sF ?_))
      first | refine sim_op (name_m _) (fun _ h => nomatch h) fun r6 b => Sim.prop fun h => ?_ | refine sim_op1 (name_m _) (fun _ h => nomatch h) fun r6 b => Sim.prop fun h => ?_
      subst h
      (with_reducible repeat (first | refine sA ?_ | refine sB ?_ | refine sC ?_ | refine sD ?_ | refine sE ?_ | refine sF ?_))
      first | refine sim_op (args_m hR _) (fun _ h => nomatch h) fun r7 nr7 => ?_ | refine sim_op1 (args_m hR _) (fun _ h => nomatch h) fun r7 nr7 => ?_
      refine sim_node [r7] [nr7] rfl (by decide) (by decide) (by kernel_rfl) (fun F hF => (.cons _ _ _ _ (hF (NodeF nr7 r7) (by repeat (first | exact mz | apply ms))) .nil)) fun r9 => ?_
      exact sim_outP _ rfl rfl (fun F hF => hF _ (by repeat (first | exact mz | apply ms)))
    · skip
      exact sim_outP _ rfl rfl (fun F hF => hF _ (by repeat (first | exact mz | apply ms)))
  · skip
    (with_reducible repeat (first | refine sA ?_ | refine sB ?_ | refine sC ?_ | refine sD ?_ | refine sE ?_ | refine sF ?_))
    first | refine sim_op (refs_m hR _ _) (fun _ h => nomatch h) fun r11 nr11 => ?_ | refine sim_op1 (refs_m hR _ _) (fun _ h => nomatch h) fun r11 nr11 => ?_
    (with_reducible repeat (first | refine sA ?_ | refine sB ?_ | refine sC ?_ | refine sD ?_ | refine sE ?_ | refine sF ?_))
    first | refine sim_op (must_m _ _) (fun _ h => nomatch h) fun x b => ?_ | refine sim_op1 (must_m _ _) (fun _ h => nomatch h) fun x b => ?_
    (with_reducible repeat (first | refine sA ?_ | refine sB ?_ | refine sC ?_ | refine sD ?_ | refine sE ?_ | refine sF ?_))
    refine sim_opO (emptyO0_m _) (fun _ h => nomatch h) fun r13 nr13 Kr13 => Sim.both (Sim.prop fun hk0 => ?_)
    refine sim_join (x := { ι := Int × N, sp := fun j => cond (decide (j.1 > 1)) failS (do mustS k_rc; pure (mkN 42 r1 0 a1 [nr2, nx10, nr11, j.2])), J := fun j vs L' => Fact.ex fun K : Own => (Fact.prop (vs = [.int .i64 j.1] ∧ L' = K ++ [])).both (OwnN j.2 r13 K) }) ?_ fun i vs L' => ⟨?_, fun y => ?_⟩
    · refine sim_fuel (δ := Int × N) (fun k d => membersCS R k d.1 d.2 >>= fun cp => cond (decide (cp.1 > 1)) failS (do mustS k_rc; pure (mkN 42 r1 0 a1 [nr2, nx10, nr11, cp.2])))
        (fun k d vs L' => Fact.ex fun K : Own => (Fact.prop (vs = [.int .i64 d.1] ∧ L' = K ++ [] ∧ d.2.kids.length + 2 * k ≤ 2199023255552 ∧ 0 ≤ d.1 ∧ d.1 ≤ d.2.kids.length)).both (OwnN d.2 r13 K)) R.fuel (0, nr13) (fun _ => rfl) rfl (fun F hF => ⟨Kr13, ⟨rfl, rfl, ?_, Int.le_refl _, ?_⟩, hF _ (by repeat (first | exact mz | apply ms))⟩)
        (by rintro k d vs L' F ⟨K, ⟨rfl, _⟩, _⟩; exact ⟨(d.1, ()), rfl⟩) ?_
      · have := hR.fuel; rw [hk0]; simp; omega
      · rw [hk0]; simp
      rintro k ⟨c, n⟩ L' ⟨c', ⟨⟩⟩
      refine Sim.ex fun K => Sim.both (Sim.prop fun ⟨hv, hL, hn, hc0, hc1⟩ => ?_)
      subst hL
      obtain rfl : c = c' := by
        have := (List.cons.inj hv).1
        cases this; rfl
      replace hn : n.kids.length + 2 * (k + 1) ≤ 2199023255552 := hn
      replace hc0 : 0 ≤ c := hc0
      have hc2 : (c : Int) ≤ ((N.kids n).length : Int) := hc1
      clear hc1
      have hc0' : (0 : Int) ≤ c := hc0
      dsimp only
      rw [membersCS.eq_2]
      (with_reducible repeat (first | refine sA ?_ | refine sB ?_ | refine sC ?_ | refine sD ?_ | refine sE ?_ | refine sF ?_))
      refine sim_op (is_m _ _) (fun _ h => nomatch h) fun r15 b => Sim.prop fun h => ?_
      subst h
      refine qD (fun h => ?_) (fun h => ?_)
      · (with_reducible repeat (first | refine sA ?_ | refine sB ?_ | refine sC ?_ | refine sD ?_ | refine sE ?_ | refine sF ?_))
        refine sim_op (part_m hR _) (fun _ h => nomatch h) fun r16 nr16 => ?_
        refine sim_kind (by repeat (first | exact mz | apply ms)) ?_
        refine sim_joinI (fun c2 => fun st => if c2 = (if nr16.kind == 46 then c + 1 else c) then (membersCS R k c2 (n.push nr16) >>= fun cp => cond (decide (cp.1 > 1)) failS (do mustS k_rc; pure (mkN 42 r1 0 a1 [nr2, nx10, nr11, cp.2]))) st else none) ?_ fun x19 => ?_
        · refine qE (fun h => ?_) (fun h => ?_)
          · have hw : IntKind.i64.wrap (c + 1) = c + 1 := wrap_id (by omega) (by omega)
            rw [hw]
            refine sim_outI _ rfl ?_
            have h' : (nr16.kind == 46) = true := h
            rw [h']; funext st; simp
          · refine sim_outI _ rfl ?_
            have h' : (nr16.kind == 46) = false := h
            rw [h']; funext st; simp
        · by_cases hx : x19 = (if nr16.kind == 46 then c + 1 else c)
          · refine Sim.spec (s' := (membersCS R k x19 (n.push nr16) >>= fun cp => cond (decide (cp.1 > 1)) failS (do mustS k_rc; pure (mkN 42 r1 0 a1 [nr2, nx10, nr11, cp.2])))) (by funext st; simp only [if_pos hx]) ?_
            refine sim_pushP (n := n) (by repeat (first | exact mz | apply ms)) (by repeat (first | exact mz | apply ms)) (by omega) fun K => ?_
            refine sim_outX rfl ⟨(k, (x19, n.push nr16)), Nat.lt_succ_self k⟩ rfl fun F hF => ⟨K, ⟨rfl, rfl, ?_, ?_, ?_⟩, hF _ (List.mem_cons_self ..)⟩
            · show (n.push nr16).kids.length + 2 * k ≤ 2199023255552; rw [N.push_len]; omega
            · have h9 : (0 : Int) ≤ (if nr16.kind == 46 then c + 1 else c) := by split <;> omega
              exact hx.symm ▸ h9
            · have h9 : (if nr16.kind == 46 then c + 1 else c) ≤ (((n.push nr16).kids.length : Nat) : Int) := by rw [N.push_len]; split <;> (push_cast; omega)
              exact hx.symm ▸ h9
          · intro r w F H st res S hs
            simp only [if_neg hx] at hs; cases hs
      · refine sim_outX rfl (c, n) rfl fun F hF => ⟨K, ⟨rfl, rfl⟩, hF _ (by repeat (first | exact mz | apply ms))⟩
    · rintro F ⟨K, ⟨rfl, _⟩, _⟩; exact ⟨(i.1, ()), rfl⟩
    · obtain ⟨y, ⟨⟩⟩ := y
      refine Sim.ex fun K => Sim.both (Sim.prop fun ⟨hv, hL⟩ => ?_)
      subst hL
      obtain rfl : y = i.1 := by
        have := (List.cons.inj hv).1
        cases this; rfl
      refine qA (fun h => ?_) (fun h => ?_)
      · exact sim_fails (β1 := Unit) (Rel1 := fun _ _ _ => Fact.prop True) (fail_m _) (fun _ h => nomatch h) (by first | exact errs_fail | exact errs_failb _)
      · refine sim_op (must_m _ _) (fun _ h => nomatch h) fun x b => ?_
        refine sim_doneM (n := i.2) (x := r13) (by repeat (first | exact mz | apply ms)) ?_
        refine sim_node [r2, x10, r11, r13] [nr2, nx10, nr11, i.2] rfl (by decide) (by decide) (by kernel_rfl) (fun F hF => (.cons _ _ _ _ (hF (NodeF nr2 r2) (by repeat (first | exact mz | apply ms))) (.cons _ _ _ _ (hF (NodeF nx10 x10) (by repeat (first | exact mz | apply ms))) (.cons _ _ _ _ (hF (NodeF nr11 r11) (by repeat (first | exact mz | apply ms))) (.cons _ _ _ _ (hF (NodeF i.2 r13) (by repeat (first | exact mz | apply ms))) .nil))))) fun r33 => ?_
        exact sim_ret1 (t := tP) _ rfl (fun F hF => hF _ (by repeat (first | exact mz | apply ms)))
theorem enum_m {R : PRec} (hR : PRecM R) (pb : Nat) (n : Int) (pos : Int) : Meets PG (PI pb) (callS F_parser_enum #[.pointer (some (pAt pb)), .int .i64 n, .int .i64 pos]) tP (enumS R n pos) NodeF [] := by
  refine c_parser_enum (pAt pb) n pos ?_
  unfold t_parser_enum enumS
  (with_reducible repeat (first | refine sA ?_ | refine sB ?_ | refine sC ?_ | refine sD ?_ | refine sE ?_ | refine sF ?_))
  first | refine sim_op (must_m _ _) (fun _ h => nomatch h) fun x b => ?_ | refine sim_op1 (must_m _ _) (fun _ h => nomatch h) fun x b => ?_
  (with_reducible repeat (first | refine sA ?_ | refine sB ?_ | refine sC ?_ | refine sD ?_ | refine sE ?_ | refine sF ?_))
  first | refine sim_op (name_m _) (fun _ h => nomatch h) fun r2 b => Sim.prop fun h => ?_ | refine sim_op1 (name_m _) (fun _ h => nomatch h) fun r2 b => Sim.prop fun h => ?_
  subst h
  refine sim_own0 fun r3 Kr3 => ?_
  (with_reducible repeat (first | refine sA ?_ | refine sB ?_ | refine sC ?_ | refine sD ?_ | refine sE ?_ | refine sF ?_))
  first | refine sim_op (must_m _ _) (fun _ h => nomatch h) fun x b => ?_ | refine sim_op1 (must_m _ _) (fun _ h => nomatch h) fun x b => ?_
  refine sim_joinO (fun n => do mustS k_rc; pure n) r3 [] ?_ fun n K => ?_
  · skip
    refine sim_fuelO (enumMS R) R.fuel _ (fun _ => rfl) rfl (by have := hR.fuel; simp [mkN, N.kids]; omega) (by repeat (first | exact mz | apply ms)) fun k n K hn => ?_
    (with_reducible repeat (first | refine sA ?_ | refine sB ?_ | refine sC ?_ | refine sD ?_ | refine sE ?_ | refine sF ?_))
    first | refine sim_op (is_m _ _) (fun _ h => nomatch h) fun r6 b => Sim.prop fun h => ?_ | refine sim_op1 (is_m _ _) (fun _ h => nomatch h) fun r6 b => Sim.prop fun h => ?_
    subst h
    (with_reducible repeat (first | refine sA ?_ | refine sB ?_ | refine sC ?_ | refine sD ?_ | refine sE ?_ | refine sF ?_))
    (first | refine qA (fun h => ?_) fun h => ?_ | refine qB (fun h => ?_) fun h => ?_ | refine qC (fun h => ?_) fun h => ?_ | refine qD (fun h => ?_) fun h => ?_ | refine qE (fun h => ?_) fun h => ?_) -- (!r6)
    · skip
      (with_reducible repeat (first | refine sA ?_ | refine sB ?_ | refine sC ?_ | refine sD ?_ | refine sE ?_ | refine sF ?_))
      first | refine sim_op (now_m _) (fun _ h => nomatch h) fun r7 b => Sim.prop fun h => ?_ | refine sim_op1 (now_m _) (fun _ h => nomatch h) fun r7 b => Sim.prop fun h => ?_
      subst h
      (with_reducible repeat (first | refine sA ?_ | refine sB ?_ | refine sC ?_ | refine sD ?_ | refine sE ?_ | refine sF ?_))
      first | refine sim_op (name_m _) (fun _ h => nomatch h) fun r8 b => Sim.prop fun h => ?_ | refine sim_op1 (name_m _) (fun _ h => nomatch h) fun r8 b => Sim.prop fun h => ?_
      subst h
      (with_reducible repeat (first | refine sA ?_ | refine sB ?_ | refine sC ?_ | refine sD ?_ | refine sE ?_ | refine sF ?_))
      first | refine sim_op (none_m _) (fun _ h => nomatch h) fun r9 nr9 => ?_ | refine sim_op1 (none_m _) (fun _ h => nomatch h) fun r9 nr9 => ?_
      (with_reducible repeat (first | refine sA ?_ | refine sB ?_ | refine sC ?_ | refine sD ?_ | refine sE ?_ | refine sF ?_))
      first | refine sim_op (take_m _ _) (fun _ h => nomatch h) fun r10 b => Sim.prop fun h => ?_ | refine sim_op1 (take_m _ _) (fun _ h => nomatch h) fun r10 b => Sim.prop fun h => ?_
      subst h
      refine sim_joinPb NodeF ?_ fun nx12 x12 => ?_
      · skip
        (with_reducible repeat (first | refine sA ?_ | refine sB ?_ | refine sC ?_ | refine sD ?_ | refine sE ?_ | refine sF ?_))
        (first | refine qA (fun h => ?_) fun h => ?_ | refine qB (fun h => ?_) fun h => ?_ | refine qC (fun h => ?_) fun h => ?_ | refine qD (fun h => ?_) fun h => ?_ | refine qE (fun h => ?_) fun h => ?_) -- r10
        · skip
          (with_reducible repeat (first | refine sA ?_ | refine sB ?_ | refine sC ?_ | refine sD ?_ | refine sE ?_ | refine sF ?_))
          first | refine sim_op (hR.expr _) (fun _ h => nomatch h) fun r11 nr11 => ?_ | refine sim_op1 (hR.expr _) (fun _ h => nomatch h) fun r11 nr11 => ?_
          exact sim_outP _ rfl rfl (fun F hF => hF _ (by repeat (first | exact mz | apply ms)))
        · skip
          exact sim_outP _ rfl rfl (fun F hF => hF _ (by repeat (first | exact mz | apply ms)))
      · skip
        refine sim_growM (by repeat (first | exact mz | apply ms)) fun b sl ps K2 hx hb => ?_
        refine sim_nodel [x12] [nx12] rfl (by decide) (by decide) (by kernel_rfl) (fun F hF => (.cons _ _ _ _ (hF (NodeF nx12 x12) (by repeat (first | exact mz | apply ms))) .nil)) (fun p hp => by first | exact absurd hp List.not_mem_nil | (simp at hp; simp [hp])) fun r16 => ?_
        subst hx
        refine sim_push hb (by repeat (first | exact mz | apply ms)) (by repeat (first | exact mz | apply ms)) (by omega) fun K => ?_
        (with_reducible repeat (first | refine sA ?_ | refine sB ?_ | refine sC ?_ | refine sD ?_ | refine sE ?_ | refine sF ?_))
        first | refine sim_op (take_m _ _) (fun _ h => nomatch h) fun r21 b => Sim.prop fun h => ?_ | refine sim_op1 (take_m _ _) (fun _ h => nomatch h) fun r21 b => Sim.prop fun h => ?_
        subst h
        (with_reducible repeat (first | refine sA ?_ | refine sB ?_ | refine sC ?_ | refine sD ?_ | refine sE ?_ | refine sF ?_))
        (first | refine qA (fun h => ?_) fun h => ?_ | refine qB (fun h => ?_) fun h => ?_ | refine qC (fun h => ?_) fun h => ?_ | refine qD (fun h => ?_) fun h => ?_ | refine qE (fun h => ?_) fun h => ?_) -- (!r21)
        · skip
          exact sim_outJO _ rfl rfl (by repeat (first | exact mz | apply ms))
        · skip
          (first | refine sim_outO0 _ rfl (by simp [N.push_len] at hn ⊢; omega) (by repeat (first | exact mz | apply ms)) | refine sim_outO1 _ (by decide) rfl (by simp [N.push_len] at hn ⊢; omega) (by repeat (first | exact mz | apply ms)))
    · skip
      exact sim_outJO _ rfl rfl (by repeat (first | exact mz | apply ms))
  · skip
    (with_reducible repeat (first | refine sA ?_ | refine sB ?_ | refine sC ?_ | refine sD ?_ | refine sE ?_ | refine sF ?_))
    first | refine sim_op (must_m _ _) (fun _ h => nomatch h) fun x b => ?_ | refine sim_op1 (must_m _ _) (fun _ h => nomatch h) fun x b => ?_
    refine sim_doneM (n := _) (x := r3) (by repeat (first | exact mz | apply ms)) ?_
    (with_reducible repeat (first | refine sA ?_ | refine sB ?_ | refine sC ?_ | refine sD ?_ | refine sE ?_ | refine sF ?_))
    exact sim_ret1 (t := tP) _ rfl (fun F hF => hF _ (by repeat (first | exact mz | apply ms)))
theorem namespace_m {R : PRec} (hR : PRecM R) (pb : Nat) (a1 : Int) : Meets PG (PI pb) (callS F_parser_namespace #[.pointer (some (pAt pb)), .int .i64 a1]) tP (namespaceS R a1) NodeF [] := by
  refine c_parser_namespace (pAt pb) a1 ?_
  unfold t_parser_namespace namespaceS
  (with_reducible repeat (first | refine sA ?_ | refine sB ?_ | refine sC ?_ | refine sD ?_ | refine sE ?_ | refine sF ?_))
  first | refine sim_op (name_m _) (fun _ h => nomatch h) fun r1 b => Sim.prop fun h => ?_ | refine sim_op1 (name_m _) (fun _ h => nomatch h) fun r1 b => Sim.prop fun h => ?_
  subst h
  refine sim_own0 fun r2 Kr2 => ?_
  (with_reducible repeat (first | refine sA ?_ | refine sB ?_ | refine sC ?_ | refine sD ?_ | refine sE ?_ | refine sF ?_))
  first | refine sim_op (must_m _ _) (fun _ h => nomatch h) fun x b => ?_ | refine sim_op1 (must_m _ _) (fun _ h => nomatch h) fun x b => ?_
  refine sim_joinO (fun n => do mustS k_rc; pure n) r2 [] ?_ fun n K => ?_
  · skip
    refine sim_fuelO (spaceS R) R.fuel _ (fun _ => rfl) rfl (by have := hR.fuel; simp [mkN, N.kids]; omega) (by repeat (first | exact mz | apply ms)) fun k n K hn => ?_
    (with_reducible repeat (first | refine sA ?_ | refine sB ?_ | refine sC ?_ | refine sD ?_ | refine sE ?_ | refine sF ?_))
    first | refine sim_op (is_m _ _) (fun _ h => nomatch h) fun r5 b => Sim.prop fun h => ?_ | refine sim_op1 (is_m _ _) (fun _ h => nomatch h) fun r5 b => Sim.prop fun h => ?_
    subst h
    (with_reducible repeat (first | refine sA ?_ | refine sB ?_ | refine sC ?_ | refine sD ?_ | refine sE ?_ | refine sF ?_))
    (first | refine qA (fun h => ?_) fun h => ?_ | refine qB (fun h => ?_) fun h => ?_ | refine qC (fun h => ?_) fun h => ?_ | refine qD (fun h => ?_) fun h => ?_ | refine qE (fun h => ?_) fun h => ?_) -- (!r5)
    · skip
      (with_reducible repeat (first | refine sA ?_ | refine sB ?_ | refine sC ?_ | refine sD ?_ | refine sE ?_ | refine sF ?_))
      first | refine sim_op (now_m _) (fun _ h => nomatch h) fun r6 b => Sim.prop fun h => ?_ | refine sim_op1 (now_m _) (fun _ h => nomatch h) fun r6 b => Sim.prop fun h => ?_
      subst h
      refine sim_varF (c := true) (z := [.int .i64 0, .string kE, .int .i64 0, .int .i64 0]) (by kernel_rfl) (by kernel_rfl) rfl (by simp [Value.cells, Value.oneCell']) fun br7 => ?_
      (with_reducible repeat (first | refine sA ?_ | refine sB ?_ | refine sC ?_ | refine sD ?_ | refine sE ?_ | refine sF ?_))
      first | refine sim_op (take_m _ _) (fun _ h => nomatch h) fun r9 b => Sim.prop fun h => ?_ | refine sim_op1 (take_m _ _) (fun _ h => nomatch h) fun r9 b => Sim.prop fun h => ?_
      subst h
      (with_reducible repeat (first | refine sA ?_ | refine sB ?_ | refine sC ?_ | refine sD ?_ | refine sE ?_ | refine sF ?_))
      (first | refine qA (fun h => ?_) fun h => ?_ | refine qB (fun h => ?_) fun h => ?_ | refine qC (fun h => ?_) fun h => ?_ | refine qD (fun h => ?_) fun h => ?_ | refine qE (fun h => ?_) fun h => ?_) -- (!r9)
      · skip
        refine sim_growM (by repeat (first | exact mz | apply ms)) fun b sl ps K2 hx hb => ?_
        (with_reducible repeat (first | refine sA ?_ | refine sB ?_ | refine sC ?_ | refine sD ?_ | refine sE ?_ | refine sF ?_))
        first | refine sim_opl (hR.statement _) (fun _ h => nomatch h) fun r12 nr12 => ?_ | refine sim_opl1 (hR.statement _) (fun _ h => nomatch h) fun r12 nr12 => ?_
        subst hx
        refine sim_push hb (by repeat (first | exact mz | apply ms)) (by repeat (first | exact mz | apply ms)) (by omega) fun K => ?_
        (first | refine sim_outO0 _ rfl (by simp [N.push_len] at hn ⊢; omega) (by repeat (first | exact mz | apply ms)) | refine sim_outO1 _ (by decide) rfl (by simp [N.push_len] at hn ⊢; omega) (by repeat (first | exact mz | apply ms)))
      · skip
        first | refine sim_joinBb ?_ fun x19 => ?_ | refine sim_joinBc ?_ fun x19 => ?_
        · skip
          (with_reducible repeat (first | refine sA ?_ | refine sB ?_ | refine sC ?_ | refine sD ?_ | refine sE ?_ | refine sF ?_))
          first | refine sim_op (is_m _ _) (fun _ h => nomatch h) fun r17 b => Sim.prop fun h => ?_ | refine sim_op1 (is_m _ _) (fun _ h => nomatch h) fun r17 b => Sim.prop fun h => ?_
          subst h
          (with_reducible repeat (first | refine sA ?_ | refine sB ?_ | refine sC ?_ | refine sD ?_ | refine sE ?_ | refine sF ?_))
          (first | refine qA (fun h => ?_) fun h => ?_ | refine qB (fun h => ?_) fun h => ?_ | refine qC (fun h => ?_) fun h => ?_ | refine qD (fun h => ?_) fun h => ?_ | refine qE (fun h => ?_) fun h => ?_) -- r17
          · skip
            exact sim_outB _ rfl (by first | rfl | (simp only [Tok.kind] at *; simp_all))
          · skip
            (with_reducible repeat (first | refine sA ?_ | refine sB ?_ | refine sC ?_ | refine sD ?_ | refine sE ?_ | refine sF ?_))
            first | refine sim_op (now_m _) (fun _ h => nomatch h) fun r18 b => Sim.prop fun h => ?_ | refine sim_op1 (now_m _) (fun _ h => nomatch h) fun r18 b => Sim.prop fun h => ?_
            subst h
            exact sim_outB _ rfl (by first | rfl | (simp only [Tok.kind] at *; simp_all))
        · skip
          first | refine sim_joinFail ?_ ?_ | refine sim_joinU failS ?_ ?_
          · skip
            (with_reducible repeat (first | refine sA ?_ | refine sB ?_ | refine sC ?_ | refine sD ?_ | refine sE ?_ | refine sF ?_))
            (first | refine qA (fun h => ?_) fun h => ?_ | refine qB (fun h => ?_) fun h => ?_ | refine qC (fun h => ?_) fun h => ?_ | refine qD (fun h => ?_) fun h => ?_ | refine qE (fun h => ?_) fun h => ?_) -- x19.1
            · skip
              exact sim_fails (β1 := Unit) (Rel1 := fun _ _ _ => Fact.prop True) (fail_m _) (fun _ h => nomatch h) (by first | exact errs_fail | exact errs_failb _)
            · skip
              exact sim_outU rfl rfl
          · skip
            (with_reducible repeat (first | refine sA ?_ | refine sB ?_ | refine sC ?_ | refine sD ?_ | refine sE ?_ | refine sF ?_))
            first | refine sim_op (now_m _) (fun _ h => nomatch h) fun r22 b => Sim.prop fun h => ?_ | refine sim_op1 (now_m _) (fun _ h => nomatch h) fun r22 b => Sim.prop fun h => ?_
            subst h
            refine sim_op (hR.declaration _ _) (fun _ h => nomatch h) fun r23 o23 => ?_
            cases o23 with
            | none =>
              refine Sim.prop fun hp => ?_
              subst hp
              refine sim_joinB (fun c => cond c failS Sp.stop) ?_ fun x29 => ?_
              · refine sim_eqNil (by kernel_rfl) (qE (fun h => ?_) (fun h => by cases h))
                exact sim_outB _ rfl rfl
              · refine sim_joinU Sp.stop ?_ sim_stop
                refine qA (fun h => ?_) (fun h => ?_)
                · exact sim_fails (β1 := Unit) (Rel1 := fun _ _ _ => Fact.prop True) (fail_m _) (fun _ h => nomatch h) (by first | exact errs_fail | exact errs_failb _)
                · exact sim_outU rfl rfl
            | some n23 =>
              show Sim PG (PI pb) tP (pl NodeF) _ none _ (cond (n23.kind == 47 && n23.num == 1) failS (spaceS R k (n.push (mkN 50 kE 0 (Tok.pos r6) [n23])))) _ (NodeF n23 r23 :: _)
              refine sim_node_at (n := n23) (x := r23) (List.mem_cons_self ..) fun b23 sl23 h23 => ?_
              refine sim_joinBc ?_ fun x29 => ?_
              · refine sim_eqNil (by kernel_rfl) (qE (fun h => by rw [h23] at h; cases h) (fun h => ?_))
                refine sim_kind (n := n23) (by repeat (first | exact mz | apply ms)) ?_
                refine qE (fun h47 => ?_) (fun h47 => ?_)
                · refine sim_num (n := n23) (by repeat (first | exact mz | apply ms)) ?_
                  exact sim_outB _ rfl (by show cond (n23.kind == 47 && n23.num == 1) _ _ = _; rw [show (n23.kind == 47) = true from h47]; rfl)
                · exact sim_outB _ rfl (by show cond (n23.kind == 47 && n23.num == 1) _ _ = _; rw [show (n23.kind == 47) = false from h47]; rfl)
              · refine sim_joinFail ?_ ?_
                · refine qA (fun h => ?_) (fun h => ?_)
                  · exact sim_fails (β1 := Unit) (Rel1 := fun _ _ _ => Fact.prop True) (fail_m _) (fun _ h => nomatch h) (by first | exact errs_fail | exact errs_failb _)
                  · exact sim_outU rfl rfl
                · refine sim_growM (n := n) (by repeat (first | exact mz | apply ms)) fun b sl ps K2 hx hb => ?_
                  refine sim_ldFq (b1 := .int .i64) _ (by repeat (first | exact mz | apply ms)) (by kernel_rfl) rfl rfl ?_
                  refine sim_nodel [r23] [n23] rfl (by decide) (by decide) (by kernel_rfl) (fun F hF => (.cons _ _ _ _ (hF (NodeF n23 r23) (by repeat (first | exact mz | apply ms))) .nil)) (fun p hp => by first | exact absurd hp List.not_mem_nil | (simp at hp; simp [hp])) fun r36 => ?_
                  subst hx
                  refine sim_push (n := n) hb (by repeat (first | exact mz | apply ms)) (by repeat (first | exact mz | apply ms)) (by omega) fun K => ?_
                  (first | refine sim_outO0 _ rfl (by simp [N.push_len] at hn ⊢; omega) (by repeat (first | exact mz | apply ms)) | refine sim_outO1 _ (by decide) rfl (by simp [N.push_len] at hn ⊢; omega) (by repeat (first | exact mz | apply ms)))
    · skip
      exact sim_outJO _ rfl rfl (by repeat (first | exact mz | apply ms))
  · skip
    (with_reducible repeat (first | refine sA ?_ | refine sB ?_ | refine sC ?_ | refine sD ?_ | refine sE ?_ | refine sF ?_))
    first | refine sim_op (must_m _ _) (fun _ h => nomatch h) fun x b => ?_ | refine sim_op1 (must_m _ _) (fun _ h => nomatch h) fun x b => ?_
    refine sim_doneM (n := _) (x := r2) (by repeat (first | exact mz | apply ms)) ?_
    (with_reducible repeat (first | refine sA ?_ | refine sB ?_ | refine sC ?_ | refine sD ?_ | refine sE ?_ | refine sF ?_))
    exact sim_ret1 (t := tP) _ rfl (fun F hF => hF _ (by repeat (first | exact mz | apply ms)))
set_option maxHeartbeats 2000000 in
theorem declaration_m {R : PRec} (hR : PRecM R) (pb : Nat) (a1 : Tok) : Meets PG (PI pb) (callS F_parser_declaration #[.pointer (some (pAt pb)), .agg #[.int .i64 a1.1, .string a1.2.1, .int .i64 a1.2.2.1, .int .i64 a1.2.2.2.1]]) tP (declarationS R a1) OptF [] := by
  refine c_parser_declaration (pAt pb) a1 ?_
  unfold t_parser_declaration declarationS
  refine sim_boxF fun br1 => ?_
  first | refine sim_joinBb ?_ fun x5 => ?_ | refine sim_joinBc ?_ fun x5 => ?_
  · skip
    (with_reducible repeat (first | refine sA ?_ | refine sB ?_ | refine sC ?_ | refine sD ?_ | refine sE ?_ | refine sF ?_))
    first | refine sim_op (is_m _ _) (fun _ h => nomatch h) fun r2 b => Sim.prop fun h => ?_ | refine sim_op1 (is_m _ _) (fun _ h => nomatch h) fun r2 b => Sim.prop fun h => ?_
    subst h
    (with_reducible repeat (first | refine sA ?_ | refine sB ?_ | refine sC ?_ | refine sD ?_ | refine sE ?_ | refine sF ?_))
    (first | refine qA (fun h => ?_) fun h => ?_ | refine qB (fun h => ?_) fun h => ?_ | refine qC (fun h => ?_) fun h => ?_ | refine qD (fun h => ?_) fun h => ?_ | refine qE (fun h => ?_) fun h => ?_) -- r2
    · skip
      (with_reducible repeat (first | refine sA ?_ | refine sB ?_ | refine sC ?_ | refine sD ?_ | refine sE ?_ | refine sF ?_))
      first | refine sim_op (then_m _ _ (by decide) (by decide)) (fun _ h => nomatch h) fun r3 b => Sim.prop fun h => ?_ | refine sim_op1 (then_m _ _ (by decide) (by decide)) (fun _ h => nomatch h) fun r3 b => Sim.prop fun h => ?_
      subst h
      refine sim_val (says_m _ _ _) (fun _ h => nomatch h) ?_
      exact sim_outB _ rfl (by first | rfl | (simp only [Tok.kind] at *; simp_all))
    · skip
      exact sim_outB _ rfl (by first | rfl | (simp only [Tok.kind] at *; simp_all))
  · skip
    (with_reducible repeat (first | refine sA ?_ | refine sB ?_ | refine sC ?_ | refine sD ?_ | refine sE ?_ | refine sF ?_))
    (first | refine qA (fun h => ?_) fun h => ?_ | refine qB (fun h => ?_) fun h => ?_ | refine qC (fun h => ?_) fun h => ?_ | refine qD (fun h => ?_) fun h => ?_ | refine qE (fun h => ?_) fun h => ?_) -- x5.1
    · skip
      (with_reducible repeat (first | refine sA ?_ | refine sB ?_ | refine sC ?_ | refine sD ?_ | refine sE ?_ | refine sF ?_))
      first | refine sim_op (next_m _) (fun _ h => nomatch h) fun r6 b => Sim.prop fun h => ?_ | refine sim_op1 (next_m _) (fun _ h => nomatch h) fun r6 b => Sim.prop fun h => ?_
      subst h
      refine sim_ldF (b1 := .int .i64) _ (by repeat (first | exact mz | apply ms)) (by kernel_rfl) rfl rfl ?_
      (with_reducible repeat (first | refine sA ?_ | refine sB ?_ | refine sC ?_ | refine sD ?_ | refine sE ?_ | refine sF ?_))
      first | refine sim_op (enum_m hR _ _ _) (fun _ h => nomatch h) fun r8 nr8 => ?_ | refine sim_op1 (enum_m hR _ _ _) (fun _ h => nomatch h) fun r8 nr8 => ?_
      (with_reducible repeat (first | refine sA ?_ | refine sB ?_ | refine sC ?_ | refine sD ?_ | refine sE ?_ | refine sF ?_))
      exact sim_ret1 (t := tP) _ rfl (fun F hF => hF _ (by repeat (first | exact mz | apply ms)))
    · skip
      (with_reducible repeat (first | refine sA ?_ | refine sB ?_ | refine sC ?_ | refine sD ?_ | refine sE ?_ | refine sF ?_))
      first | refine sim_op (take_m _ _) (fun _ h => nomatch h) fun r9 b => Sim.prop fun h => ?_ | refine sim_op1 (take_m _ _) (fun _ h => nomatch h) fun r9 b => Sim.prop fun h => ?_
      subst h
      (with_reducible repeat (first | refine sA ?_ | refine sB ?_ | refine sC ?_ | refine sD ?_ | refine sE ?_ | refine sF ?_))
      (first | refine qA (fun h => ?_) fun h => ?_ | refine qB (fun h => ?_) fun h => ?_ | refine qC (fun h => ?_) fun h => ?_ | refine qD (fun h => ?_) fun h => ?_ | refine qE (fun h => ?_) fun h => ?_) -- r9
      · skip
        refine sim_ldF (b1 := .int .i64) _ (by repeat (first | exact mz | apply ms)) (by kernel_rfl) rfl rfl ?_
        (with_reducible repeat (first | refine sA ?_ | refine sB ?_ | refine sC ?_ | refine sD ?_ | refine sE ?_ | refine sF ?_))
        first | refine sim_op (variable_m hR _ _ _) (fun _ h => nomatch h) fun r11 nr11 => ?_ | refine sim_op1 (variable_m hR _ _ _) (fun _ h => nomatch h) fun r11 nr11 => ?_
        (with_reducible repeat (first | refine sA ?_ | refine sB ?_ | refine sC ?_ | refine sD ?_ | refine sE ?_ | refine sF ?_))
        first | refine sim_op (must_m _ _) (fun _ h => nomatch h) fun x b => ?_ | refine sim_op1 (must_m _ _) (fun _ h => nomatch h) fun x b => ?_
        (with_reducible repeat (first | refine sA ?_ | refine sB ?_ | refine sC ?_ | refine sD ?_ | refine sE ?_ | refine sF ?_))
        exact sim_ret1 (t := tP) _ rfl (fun F hF => hF _ (by repeat (first | exact mz | apply ms)))
      · skip
        (with_reducible repeat (first | refine sA ?_ | refine sB ?_ | refine sC ?_ | refine sD ?_ | refine sE ?_ | refine sF ?_))
        first | refine sim_op (take_m _ _) (fun _ h => nomatch h) fun r13 b => Sim.prop fun h => ?_ | refine sim_op1 (take_m _ _) (fun _ h => nomatch h) fun r13 b => Sim.prop fun h => ?_
        subst h
        (with_reducible repeat (first | refine sA ?_ | refine sB ?_ | refine sC ?_ | refine sD ?_ | refine sE ?_ | refine sF ?_))
        (first | refine qA (fun h => ?_) fun h => ?_ | refine qB (fun h => ?_) fun h => ?_ | refine qC (fun h => ?_) fun h => ?_ | refine qD (fun h => ?_) fun h => ?_ | refine qE (fun h => ?_) fun h => ?_) -- r13
        · skip
          refine sim_ldF (b1 := .int .i64) _ (by repeat (first | exact mz | apply ms)) (by kernel_rfl) rfl rfl ?_
          (with_reducible repeat (first | refine sA ?_ | refine sB ?_ | refine sC ?_ | refine sD ?_ | refine sE ?_ | refine sF ?_))
          first | refine sim_op (variable_m hR _ _ _) (fun _ h => nomatch h) fun r15 nr15 => ?_ | refine sim_op1 (variable_m hR _ _ _) (fun _ h => nomatch h) fun r15 nr15 => ?_
          (with_reducible repeat (first | refine sA ?_ | refine sB ?_ | refine sC ?_ | refine sD ?_ | refine sE ?_ | refine sF ?_))
          first | refine sim_op (must_m _ _) (fun _ h => nomatch h) fun x b => ?_ | refine sim_op1 (must_m _ _) (fun _ h => nomatch h) fun x b => ?_
          (with_reducible repeat (first | refine sA ?_ | refine sB ?_ | refine sC ?_ | refine sD ?_ | refine sE ?_ | refine sF ?_))
          exact sim_ret1 (t := tP) _ rfl (fun F hF => hF _ (by repeat (first | exact mz | apply ms)))
        · skip
          (with_reducible repeat (first | refine sA ?_ | refine sB ?_ | refine sC ?_ | refine sD ?_ | refine sE ?_ | refine sF ?_))
          first | refine sim_op (take_m _ _) (fun _ h => nomatch h) fun r17 b => Sim.prop fun h => ?_ | refine sim_op1 (take_m _ _) (fun _ h => nomatch h) fun r17 b => Sim.prop fun h => ?_
          subst h
          (with_reducible repeat (first | refine sA ?_ | refine sB ?_ | refine sC ?_ | refine sD ?_ | refine sE ?_ | refine sF ?_))
          (first | refine qA (fun h => ?_) fun h => ?_ | refine qB (fun h => ?_) fun h => ?_ | refine qC (fun h => ?_) fun h => ?_ | refine qD (fun h => ?_) fun h => ?_ | refine qE (fun h => ?_) fun h => ?_) -- r17
          · skip
            refine sim_ldF (b1 := .int .i64) _ (by repeat (first | exact mz | apply ms)) (by kernel_rfl) rfl rfl ?_
            (with_reducible repeat (first | refine sA ?_ | refine sB ?_ | refine sC ?_ | refine sD ?_ | refine sE ?_ | refine sF ?_))
            first | refine sim_op (function_m hR _ _ _) (fun _ h => nomatch h) fun r19 nr19 => ?_ | refine sim_op1 (function_m hR _ _ _) (fun _ h => nomatch h) fun r19 nr19 => ?_
            (with_reducible repeat (first | refine sA ?_ | refine sB ?_ | refine sC ?_ | refine sD ?_ | refine sE ?_ | refine sF ?_))
            exact sim_ret1 (t := tP) _ rfl (fun F hF => hF _ (by repeat (first | exact mz | apply ms)))
          · skip
            (with_reducible repeat (first | refine sA ?_ | refine sB ?_ | refine sC ?_ | refine sD ?_ | refine sE ?_ | refine sF ?_))
            first | refine sim_op (take_m _ _) (fun _ h => nomatch h) fun r20 b => Sim.prop fun h => ?_ | refine sim_op1 (take_m _ _) (fun _ h => nomatch h) fun r20 b => Sim.prop fun h => ?_
            subst h
            (with_reducible repeat (first | refine sA ?_ | refine sB ?_ | refine sC ?_ | refine sD ?_ | refine sE ?_ | refine sF ?_))
            (first | refine qA (fun h => ?_) fun h => ?_ | refine qB (fun h => ?_) fun h => ?_ | refine qC (fun h => ?_) fun h => ?_ | refine qD (fun h => ?_) fun h => ?_ | refine qE (fun h => ?_) fun h => ?_) -- r20
            · skip
              refine sim_ldF (b1 := .int .i64) _ (by repeat (first | exact mz | apply ms)) (by kernel_rfl) rfl rfl ?_
              (with_reducible repeat (first | refine sA ?_ | refine sB ?_ | refine sC ?_ | refine sD ?_ | refine sE ?_ | refine sF ?_))
              first | refine sim_op (class_m hR _ _) (fun _ h => nomatch h) fun r22 nr22 => ?_ | refine sim_op1 (class_m hR _ _) (fun _ h => nomatch h) fun r22 nr22 => ?_
              (with_reducible repeat (first | refine sA ?_ | refine sB ?_ | refine sC ?_ | refine sD ?_ | refine sE ?_ | refine sF ?_))
              exact sim_ret1 (t := tP) _ rfl (fun F hF => hF _ (by repeat (first | exact mz | apply ms)))
            · skip
              (with_reducible repeat (first | refine sA ?_ | refine sB ?_ | refine sC ?_ | refine sD ?_ | refine sE ?_ | refine sF ?_))
              first | refine sim_op (is_m _ _) (fun _ h => nomatch h) fun r23 b => Sim.prop fun h => ?_ | refine sim_op1 (is_m _ _) (fun _ h => nomatch h) fun r23 b => Sim.prop fun h => ?_
              subst h
              (with_reducible repeat (first | refine sA ?_ | refine sB ?_ | refine sC ?_ | refine sD ?_ | refine sE ?_ | refine sF ?_))
              (first | refine qA (fun h => ?_) fun h => ?_ | refine qB (fun h => ?_) fun h => ?_ | refine qC (fun h => ?_) fun h => ?_ | refine qD (fun h => ?_) fun h => ?_ | refine qE (fun h => ?_) fun h => ?_) -- r23
              · skip
                refine sim_ldF (b1 := .int .i64) _ (by repeat (first | exact mz | apply ms)) (by kernel_rfl) rfl rfl ?_
                (with_reducible repeat (first | refine sA ?_ | refine sB ?_ | refine sC ?_ | refine sD ?_ | refine sE ?_ | refine sF ?_))
                first | refine sim_op (enum_m hR _ _ _) (fun _ h => nomatch h) fun r25 nr25 => ?_ | refine sim_op1 (enum_m hR _ _ _) (fun _ h => nomatch h) fun r25 nr25 => ?_
                (with_reducible repeat (first | refine sA ?_ | refine sB ?_ | refine sC ?_ | refine sD ?_ | refine sE ?_ | refine sF ?_))
                exact sim_ret1 (t := tP) _ rfl (fun F hF => hF _ (by repeat (first | exact mz | apply ms)))
              · skip
                (with_reducible repeat (first | refine sA ?_ | refine sB ?_ | refine sC ?_ | refine sD ?_ | refine sE ?_ | refine sF ?_))
                first | refine sim_op (take_m _ _) (fun _ h => nomatch h) fun r26 b => Sim.prop fun h => ?_ | refine sim_op1 (take_m _ _) (fun _ h => nomatch h) fun r26 b => Sim.prop fun h => ?_
                subst h
                (with_reducible repeat (first | refine sA ?_ | refine sB ?_ | refine sC ?_ | refine sD ?_ | refine sE ?_ | refine sF ?_))
                (first | refine qA (fun h => ?_) fun h => ?_ | refine qB (fun h => ?_) fun h => ?_ | refine qC (fun h => ?_) fun h => ?_ | refine qD (fun h => ?_) fun h => ?_ | refine qE (fun h => ?_) fun h => ?_) -- r26
                · skip
                  refine sim_ldF (b1 := .int .i64) _ (by repeat (first | exact mz | apply ms)) (by kernel_rfl) rfl rfl ?_
                  (with_reducible repeat (first | refine sA ?_ | refine sB ?_ | refine sC ?_ | refine sD ?_ | refine sE ?_ | refine sF ?_))
                  first | refine sim_op (namespace_m hR _ _) (fun _ h => nomatch h) fun r28 nr28 => ?_ | refine sim_op1 (namespace_m hR _ _) (fun _ h => nomatch h) fun r28 nr28 => ?_
                  (with_reducible repeat (first | refine sA ?_ | refine sB ?_ | refine sC ?_ | refine sD ?_ | refine sE ?_ | refine sF ?_))
                  exact sim_ret1 (t := tP) _ rfl (fun F hF => hF _ (by repeat (first | exact mz | apply ms)))
                · skip
                  (with_reducible repeat (first | refine sA ?_ | refine sB ?_ | refine sC ?_ | refine sD ?_ | refine sE ?_ | refine sF ?_))
                  first | refine sim_op (take_m _ _) (fun _ h => nomatch h) fun r29 b => Sim.prop fun h => ?_ | refine sim_op1 (take_m _ _) (fun _ h => nomatch h) fun r29 b => Sim.prop fun h => ?_
                  subst h
                  (with_reducible repeat (first | refine sA ?_ | refine sB ?_ | refine sC ?_ | refine sD ?_ | refine sE ?_ | refine sF ?_))
                  (first | refine qA (fun h => ?_) fun h => ?_ | refine qB (fun h => ?_) fun h => ?_ | refine qC (fun h => ?_) fun h => ?_ | refine qD (fun h => ?_) fun h => ?_ | refine qE (fun h => ?_) fun h => ?_) -- r29
                  · skip
                    (with_reducible repeat (first | refine sA ?_ | refine sB ?_ | refine sC ?_ | refine sD ?_ | refine sE ?_ | refine sF ?_))
                    first | refine sim_op (name_m _) (fun _ h => nomatch h) fun r30 b => Sim.prop fun h => ?_ | refine sim_op1 (name_m _) (fun _ h => nomatch h) fun r30 b => Sim.prop fun h => ?_
                    subst h
                    (with_reducible repeat (first | refine sA ?_ | refine sB ?_ | refine sC ?_ | refine sD ?_ | refine sE ?_ | refine sF ?_))
                    first | refine sim_op (vars_m hR _) (fun _ h => nomatch h) fun r31 nr31 => ?_ | refine sim_op1 (vars_m hR _) (fun _ h => nomatch h) fun r31 nr31 => ?_
                    (with_reducible repeat (first | refine sA ?_ | refine sB ?_ | refine sC ?_ | refine sD ?_ | refine sE ?_ | refine sF ?_))
                    first | refine sim_op (refs_m hR _ _) (fun _ h => nomatch h) fun r32 nr32 => ?_ | refine sim_op1 (refs_m hR _ _) (fun _ h => nomatch h) fun r32 nr32 => ?_
                    refine sim_draw [] (fun _ h => nomatch h) ?_
                    refine sim_ldFq (b1 := .int .i64) _ (by repeat (first | exact mz | apply ms)) (by kernel_rfl) rfl rfl ?_
                    (with_reducible repeat (first | refine sA ?_ | refine sB ?_ | refine sC ?_ | refine sD ?_ | refine sE ?_ | refine sF ?_))
                    first | refine sim_opl (objectType_m hR _) (fun _ h => nomatch h) fun r34 nr34 => ?_ | refine sim_opl1 (objectType_m hR _) (fun _ h => nomatch h) fun r34 nr34 => ?_
                    refine sim_nodel [r31, r32, r34] [nr31, nr32, nr34] rfl (by decide) (by decide) (by kernel_rfl) (fun F hF => (.cons _ _ _ _ (hF (NodeF nr31 r31) (by repeat (first | exact mz | apply ms))) (.cons _ _ _ _ (hF (NodeF nr32 r32) (by repeat (first | exact mz | apply ms))) (.cons _ _ _ _ (hF (NodeF nr34 r34) (by repeat (first | exact mz | apply ms))) .nil)))) (fun p hp => by first | exact absurd hp List.not_mem_nil | (simp at hp; simp [hp])) fun r36 => ?_
                    (with_reducible repeat (first | refine sA ?_ | refine sB ?_ | refine sC ?_ | refine sD ?_ | refine sE ?_ | refine sF ?_))
                    exact sim_ret1 (t := tP) _ rfl (fun F hF => hF _ (by repeat (first | exact mz | apply ms)))
                  · skip
                    (with_reducible repeat (first | refine sA ?_ | refine sB ?_ | refine sC ?_ | refine sD ?_ | refine sE ?_ | refine sF ?_))
                    first | refine sim_op (take_m _ _) (fun _ h => nomatch h) fun r37 b => Sim.prop fun h => ?_ | refine sim_op1 (take_m _ _) (fun _ h => nomatch h) fun r37 b => Sim.prop fun h => ?_
                    subst h
                    (with_reducible repeat (first | refine sA ?_ | refine sB ?_ | refine sC ?_ | refine sD ?_ | refine sE ?_ | refine sF ?_))
                    (first | refine qA (fun h => ?_) fun h => ?_ | refine qB (fun h => ?_) fun h => ?_ | refine qC (fun h => ?_) fun h => ?_ | refine qD (fun h => ?_) fun h => ?_ | refine qE (fun h => ?_) fun h => ?_) -- r37
                    · skip
                      (with_reducible repeat (first | refine sA ?_ | refine sB ?_ | refine sC ?_ | refine sD ?_ | refine sE ?_ | refine sF ?_))
                      first | refine sim_op (name_m _) (fun _ h => nomatch h) fun r38 b => Sim.prop fun h => ?_ | refine sim_op1 (name_m _) (fun _ h => nomatch h) fun r38 b => Sim.prop fun h => ?_
                      subst h
                      (with_reducible repeat (first | refine sA ?_ | refine sB ?_ | refine sC ?_ | refine sD ?_ | refine sE ?_ | refine sF ?_))
                      first | refine sim_op (vars_m hR _) (fun _ h => nomatch h) fun r39 nr39 => ?_ | refine sim_op1 (vars_m hR _) (fun _ h => nomatch h) fun r39 nr39 => ?_
                      (with_reducible repeat (first | refine sA ?_ | refine sB ?_ | refine sC ?_ | refine sD ?_ | refine sE ?_ | refine sF ?_))
                      first | refine sim_op (must_m _ _) (fun _ h => nomatch h) fun x b => ?_ | refine sim_op1 (must_m _ _) (fun _ h => nomatch h) fun x b => ?_
                      (with_reducible repeat (first | refine sA ?_ | refine sB ?_ | refine sC ?_ | refine sD ?_ | refine sE ?_ | refine sF ?_))
                      first | refine sim_op (hR.typed _) (fun _ h => nomatch h) fun r41 nr41 => ?_ | refine sim_op1 (hR.typed _) (fun _ h => nomatch h) fun r41 nr41 => ?_
                      (with_reducible repeat (first | refine sA ?_ | refine sB ?_ | refine sC ?_ | refine sD ?_ | refine sE ?_ | refine sF ?_))
                      first | refine sim_op (must_m _ _) (fun _ h => nomatch h) fun x b => ?_ | refine sim_op1 (must_m _ _) (fun _ h => nomatch h) fun x b => ?_
                      refine sim_ldF (b1 := .int .i64) _ (by repeat (first | exact mz | apply ms)) (by kernel_rfl) rfl rfl ?_
                      refine sim_node [r39, r41] [nr39, nr41] rfl (by decide) (by decide) (by kernel_rfl) (fun F hF => (.cons _ _ _ _ (hF (NodeF nr39 r39) (by repeat (first | exact mz | apply ms))) (.cons _ _ _ _ (hF (NodeF nr41 r41) (by repeat (first | exact mz | apply ms))) .nil))) fun r45 => ?_
                      (with_reducible repeat (first | refine sA ?_ | refine sB ?_ | refine sC ?_ | refine sD ?_ | refine sE ?_ | refine sF ?_))
                      exact sim_ret1 (t := tP) _ rfl (fun F hF => hF _ (by repeat (first | exact mz | apply ms)))
                    · skip
                      (with_reducible repeat (first | refine sA ?_ | refine sB ?_ | refine sC ?_ | refine sD ?_ | refine sE ?_ | refine sF ?_))
                      exact sim_ret1 (t := tP) none rfl (fun F _ => rfl)
set_option maxHeartbeats 2000000 in
theorem statement_m {R : PRec} (hR : PRecM R) (pb : Nat) : Meets PG (PI pb) (callS F_parser_statement #[.pointer (some (pAt pb))]) tP (statementS R) NodeF [] := by
  refine c_parser_statement (pAt pb) ?_
  unfold t_parser_statement statementS
  (with_reducible repeat (first | refine sA ?_ | refine sB ?_ | refine sC ?_ | refine sD ?_ | refine sE ?_ | refine sF ?_))
  first | refine sim_op (now_m _) (fun _ h => nomatch h) fun r1 b => Sim.prop fun h => ?_ | refine sim_op1 (now_m _) (fun _ h => nomatch h) fun r1 b => Sim.prop fun h => ?_
  subst h
  refine sim_varF (c := true) (z := [.int .i64 0, .string kE, .int .i64 0, .int .i64 0]) (by kernel_rfl) (by kernel_rfl) rfl (by simp [Value.cells, Value.oneCell']) fun br2 => ?_
  refine sim_ldF (b1 := .int .i64) _ (by repeat (first | exact mz | apply ms)) (by kernel_rfl) rfl rfl ?_
  refine sim_joinU (statement2S R r1) ?_ ?_
  · skip
    (with_reducible repeat (first | refine sA ?_ | refine sB ?_ | refine sC ?_ | refine sD ?_ | refine sE ?_ | refine sF ?_))
    (first | refine qA (fun h => ?_) fun h => ?_ | refine qB (fun h => ?_) fun h => ?_ | refine qC (fun h => ?_) fun h => ?_ | refine qD (fun h => ?_) fun h => ?_ | refine qE (fun h => ?_) fun h => ?_) -- ((r4 : Int) == 2)
    · skip
      refine sim_ldFA (bs := bsTok) r1 (by repeat (first | exact mz | apply ms)) (by kernel_rfl) rfl rfl ?_
      refine sim_op (declaration_m hR _ _) (fun _ h => nomatch h) fun r6 o6 => ?_
      cases o6 with
      | none =>
        refine Sim.prop fun hp => ?_
        subst hp
        refine sim_neNil (by kernel_rfl) (qE (fun h => by cases h) (fun h => ?_))
        exact sim_outU rfl rfl
      | some n6 =>
        refine sim_node_at (n := n6) (x := r6) (List.mem_cons_self ..) fun b6 sl6 h6 => ?_
        refine sim_neNil (by kernel_rfl) (qE (fun h => ?_) (fun h => by rw [h6] at h; cases h))
        exact sim_ret1 (t := tP) _ rfl (fun F hF => hF (NodeF n6 r6) (List.mem_cons_of_mem _ (List.mem_cons_self ..)))
    · skip
      exact sim_outU rfl rfl
  · unfold statement2S
    (with_reducible repeat (first | refine sA ?_ | refine sB ?_ | refine sC ?_ | refine sD ?_ | refine sE ?_ | refine sF ?_))
    first | refine sim_op (is_m _ _) (fun _ h => nomatch h) fun r9 b => Sim.prop fun h => ?_ | refine sim_op1 (is_m _ _) (fun _ h => nomatch h) fun r9 b => Sim.prop fun h => ?_
    subst h
    (with_reducible repeat (first | refine sA ?_ | refine sB ?_ | refine sC ?_ | refine sD ?_ | refine sE ?_ | refine sF ?_))
    (first | refine qA (fun h => ?_) fun h => ?_ | refine qB (fun h => ?_) fun h => ?_ | refine qC (fun h => ?_) fun h => ?_ | refine qD (fun h => ?_) fun h => ?_ | refine qE (fun h => ?_) fun h => ?_) -- r9
    · skip
      (with_reducible repeat (first | refine sA ?_ | refine sB ?_ | refine sC ?_ | refine sD ?_ | refine sE ?_ | refine sF ?_))
      first | refine sim_op (hR.block _) (fun _ h => nomatch h) fun r10 nr10 => ?_ | refine sim_op1 (hR.block _) (fun _ h => nomatch h) fun r10 nr10 => ?_
      (with_reducible repeat (first | refine sA ?_ | refine sB ?_ | refine sC ?_ | refine sD ?_ | refine sE ?_ | refine sF ?_))
      exact sim_ret1 (t := tP) _ rfl (fun F hF => hF _ (by repeat (first | exact mz | apply ms)))
    · skip
      (with_reducible repeat (first | refine sA ?_ | refine sB ?_ | refine sC ?_ | refine sD ?_ | refine sE ?_ | refine sF ?_))
      first | refine sim_op (take_m _ _) (fun _ h => nomatch h) fun r11 b => Sim.prop fun h => ?_ | refine sim_op1 (take_m _ _) (fun _ h => nomatch h) fun r11 b => Sim.prop fun h => ?_
      subst h
      (with_reducible repeat (first | refine sA ?_ | refine sB ?_ | refine sC ?_ | refine sD ?_ | refine sE ?_ | refine sF ?_))
      (first | refine qA (fun h => ?_) fun h => ?_ | refine qB (fun h => ?_) fun h => ?_ | refine qC (fun h => ?_) fun h => ?_ | refine qD (fun h => ?_) fun h => ?_ | refine qE (fun h => ?_) fun h => ?_) -- r11
      · skip
        refine sim_ldF (b1 := .int .i64) _ (by repeat (first | exact mz | apply ms)) (by kernel_rfl) rfl rfl ?_
        refine sim_made0 fun r13 => ?_
        (with_reducible repeat (first | refine sA ?_ | refine sB ?_ | refine sC ?_ | refine sD ?_ | refine sE ?_ | refine sF ?_))
        exact sim_ret1 (t := tP) _ rfl (fun F hF => hF _ (by repeat (first | exact mz | apply ms)))
      · skip
        (with_reducible repeat (first | refine sA ?_ | refine sB ?_ | refine sC ?_ | refine sD ?_ | refine sE ?_ | refine sF ?_))
        first | refine sim_op (is_m _ _) (fun _ h => nomatch h) fun r14 b => Sim.prop fun h => ?_ | refine sim_op1 (is_m _ _) (fun _ h => nomatch h) fun r14 b => Sim.prop fun h => ?_
        subst h
        (with_reducible repeat (first | refine sA ?_ | refine sB ?_ | refine sC ?_ | refine sD ?_ | refine sE ?_ | refine sF ?_))
        (first | refine qA (fun h => ?_) fun h => ?_ | refine qB (fun h => ?_) fun h => ?_ | refine qC (fun h => ?_) fun h => ?_ | refine qD (fun h => ?_) fun h => ?_ | refine qE (fun h => ?_) fun h => ?_) -- r14
        · skip
          (with_reducible repeat (first | refine sA ?_ | refine sB ?_ | refine sC ?_ | refine sD ?_ | refine sE ?_ | refine sF ?_))
          first | refine sim_op (branch_m hR _) (fun _ h => nomatch h) fun r15 nr15 => ?_ | refine sim_op1 (branch_m hR _) (fun _ h => nomatch h) fun r15 nr15 => ?_
          (with_reducible repeat (first | refine sA ?_ | refine sB ?_ | refine sC ?_ | refine sD ?_ | refine sE ?_ | refine sF ?_))
          exact sim_ret1 (t := tP) _ rfl (fun F hF => hF _ (by repeat (first | exact mz | apply ms)))
        · skip
          (with_reducible repeat (first | refine sA ?_ | refine sB ?_ | refine sC ?_ | refine sD ?_ | refine sE ?_ | refine sF ?_))
          first | refine sim_op (take_m _ _) (fun _ h => nomatch h) fun r16 b => Sim.prop fun h => ?_ | refine sim_op1 (take_m _ _) (fun _ h => nomatch h) fun r16 b => Sim.prop fun h => ?_
          subst h
          (with_reducible repeat (first | refine sA ?_ | refine sB ?_ | refine sC ?_ | refine sD ?_ | refine sE ?_ | refine sF ?_))
          (first | refine qA (fun h => ?_) fun h => ?_ | refine qB (fun h => ?_) fun h => ?_ | refine qC (fun h => ?_) fun h => ?_ | refine qD (fun h => ?_) fun h => ?_ | refine qE (fun h => ?_) fun h => ?_) -- r16
          · skip
            (with_reducible repeat (first | refine sA ?_ | refine sB ?_ | refine sC ?_ | refine sD ?_ | refine sE ?_ | refine sF ?_))
            first | refine sim_op (round_m hR _) (fun _ h => nomatch h) fun r17 nr17 => ?_ | refine sim_op1 (round_m hR _) (fun _ h => nomatch h) fun r17 nr17 => ?_
            refine sim_draw [] (fun _ h => nomatch h) ?_
            refine sim_ldFq (b1 := .int .i64) _ (by repeat (first | exact mz | apply ms)) (by kernel_rfl) rfl rfl ?_
            (with_reducible repeat (first | refine sA ?_ | refine sB ?_ | refine sC ?_ | refine sD ?_ | refine sE ?_ | refine sF ?_))
            first | refine sim_opl (hR.block _) (fun _ h => nomatch h) fun r19 nr19 => ?_ | refine sim_opl1 (hR.block _) (fun _ h => nomatch h) fun r19 nr19 => ?_
            refine sim_nodel [r17, r19] [nr17, nr19] rfl (by decide) (by decide) (by kernel_rfl) (fun F hF => (.cons _ _ _ _ (hF (NodeF nr17 r17) (by repeat (first | exact mz | apply ms))) (.cons _ _ _ _ (hF (NodeF nr19 r19) (by repeat (first | exact mz | apply ms))) .nil))) (fun p hp => by first | exact absurd hp List.not_mem_nil | (simp at hp; simp [hp])) fun r21 => ?_
            (with_reducible repeat (first | refine sA ?_ | refine sB ?_ | refine sC ?_ | refine sD ?_ | refine sE ?_ | refine sF ?_))
            exact sim_ret1 (t := tP) _ rfl (fun F hF => hF _ (by repeat (first | exact mz | apply ms)))
          · skip
            (with_reducible repeat (first | refine sA ?_ | refine sB ?_ | refine sC ?_ | refine sD ?_ | refine sE ?_ | refine sF ?_))
            first | refine sim_op (take_m _ _) (fun _ h => nomatch h) fun r22 b => Sim.prop fun h => ?_ | refine sim_op1 (take_m _ _) (fun _ h => nomatch h) fun r22 b => Sim.prop fun h => ?_
            subst h
            (with_reducible repeat (first | refine sA ?_ | refine sB ?_ | refine sC ?_ | refine sD ?_ | refine sE ?_ | refine sF ?_))
            (first | refine qA (fun h => ?_) fun h => ?_ | refine qB (fun h => ?_) fun h => ?_ | refine qC (fun h => ?_) fun h => ?_ | refine qD (fun h => ?_) fun h => ?_ | refine qE (fun h => ?_) fun h => ?_) -- r22
            · skip
              refine sim_ldF (b1 := .int .i64) _ (by repeat (first | exact mz | apply ms)) (by kernel_rfl) rfl rfl ?_
              (with_reducible repeat (first | refine sA ?_ | refine sB ?_ | refine sC ?_ | refine sD ?_ | refine sE ?_ | refine sF ?_))
              first | refine sim_op (loop_m hR _ _) (fun _ h => nomatch h) fun r24 nr24 => ?_ | refine sim_op1 (loop_m hR _ _) (fun _ h => nomatch h) fun r24 nr24 => ?_
              (with_reducible repeat (first | refine sA ?_ | refine sB ?_ | refine sC ?_ | refine sD ?_ | refine sE ?_ | refine sF ?_))
              exact sim_ret1 (t := tP) _ rfl (fun F hF => hF _ (by repeat (first | exact mz | apply ms)))
            · skip
              (with_reducible repeat (first | refine sA ?_ | refine sB ?_ | refine sC ?_ | refine sD ?_ | refine sE ?_ | refine sF ?_))
              first | refine sim_op (take_m _ _) (fun _ h => nomatch h) fun r25 b => Sim.prop fun h => ?_ | refine sim_op1 (take_m _ _) (fun _ h => nomatch h) fun r25 b => Sim.prop fun h => ?_
              subst h
              (with_reducible repeat (first | refine sA ?_ | refine sB ?_ | refine sC ?_ | refine sD ?_ | refine sE ?_ | refine sF ?_))
              (first | refine qA (fun h => ?_) fun h => ?_ | refine qB (fun h => ?_) fun h => ?_ | refine qC (fun h => ?_) fun h => ?_ | refine qD (fun h => ?_) fun h => ?_ | refine qE (fun h => ?_) fun h => ?_) -- r25
              · skip
                refine sim_ldF (b1 := .int .i64) _ (by repeat (first | exact mz | apply ms)) (by kernel_rfl) rfl rfl ?_
                (with_reducible repeat (first | refine sA ?_ | refine sB ?_ | refine sC ?_ | refine sD ?_ | refine sE ?_ | refine sF ?_))
                first | refine sim_op (ended_m hR _ _ _ _) (fun _ h => nomatch h) fun r27 nr27 => ?_ | refine sim_op1 (ended_m hR _ _ _ _) (fun _ h => nomatch h) fun r27 nr27 => ?_
                (with_reducible repeat (first | refine sA ?_ | refine sB ?_ | refine sC ?_ | refine sD ?_ | refine sE ?_ | refine sF ?_))
                exact sim_ret1 (t := tP) _ rfl (fun F hF => hF _ (by repeat (first | exact mz | apply ms)))
              · skip
                (with_reducible repeat (first | refine sA ?_ | refine sB ?_ | refine sC ?_ | refine sD ?_ | refine sE ?_ | refine sF ?_))
                first | refine sim_op (take_m _ _) (fun _ h => nomatch h) fun r28 b => Sim.prop fun h => ?_ | refine sim_op1 (take_m _ _) (fun _ h => nomatch h) fun r28 b => Sim.prop fun h => ?_
                subst h
                (with_reducible repeat (first | refine sA ?_ | refine sB ?_ | refine sC ?_ | refine sD ?_ | refine sE ?_ | refine sF ?_))
                (first | refine qA (fun h => ?_) fun h => ?_ | refine qB (fun h => ?_) fun h => ?_ | refine qC (fun h => ?_) fun h => ?_ | refine qD (fun h => ?_) fun h => ?_ | refine qE (fun h => ?_) fun h => ?_) -- r28
                · skip
                  refine sim_ldF (b1 := .int .i64) _ (by repeat (first | exact mz | apply ms)) (by kernel_rfl) rfl rfl ?_
                  (with_reducible repeat (first | refine sA ?_ | refine sB ?_ | refine sC ?_ | refine sD ?_ | refine sE ?_ | refine sF ?_))
                  first | refine sim_op (ended_m hR _ _ _ _) (fun _ h => nomatch h) fun r30 nr30 => ?_ | refine sim_op1 (ended_m hR _ _ _ _) (fun _ h => nomatch h) fun r30 nr30 => ?_
                  (with_reducible repeat (first | refine sA ?_ | refine sB ?_ | refine sC ?_ | refine sD ?_ | refine sE ?_ | refine sF ?_))
                  exact sim_ret1 (t := tP) _ rfl (fun F hF => hF _ (by repeat (first | exact mz | apply ms)))
                · skip
                  (with_reducible repeat (first | refine sA ?_ | refine sB ?_ | refine sC ?_ | refine sD ?_ | refine sE ?_ | refine sF ?_))
                  first | refine sim_op (take_m _ _) (fun _ h => nomatch h) fun r31 b => Sim.prop fun h => ?_ | refine sim_op1 (take_m _ _) (fun _ h => nomatch h) fun r31 b => Sim.prop fun h => ?_
                  subst h
                  (with_reducible repeat (first | refine sA ?_ | refine sB ?_ | refine sC ?_ | refine sD ?_ | refine sE ?_ | refine sF ?_))
                  (first | refine qA (fun h => ?_) fun h => ?_ | refine qB (fun h => ?_) fun h => ?_ | refine qC (fun h => ?_) fun h => ?_ | refine qD (fun h => ?_) fun h => ?_ | refine qE (fun h => ?_) fun h => ?_) -- r31
                  · skip
                    (with_reducible repeat (first | refine sA ?_ | refine sB ?_ | refine sC ?_ | refine sD ?_ | refine sE ?_ | refine sF ?_))
                    first | refine sim_op (must_m _ _) (fun _ h => nomatch h) fun x b => ?_ | refine sim_op1 (must_m _ _) (fun _ h => nomatch h) fun x b => ?_
                    refine sim_ldF (b1 := .int .i64) _ (by repeat (first | exact mz | apply ms)) (by kernel_rfl) rfl rfl ?_
                    refine sim_made0 fun r34 => ?_
                    (with_reducible repeat (first | refine sA ?_ | refine sB ?_ | refine sC ?_ | refine sD ?_ | refine sE ?_ | refine sF ?_))
                    exact sim_ret1 (t := tP) _ rfl (fun F hF => hF _ (by repeat (first | exact mz | apply ms)))
                  · skip
                    (with_reducible repeat (first | refine sA ?_ | refine sB ?_ | refine sC ?_ | refine sD ?_ | refine sE ?_ | refine sF ?_))
                    first | refine sim_op (take_m _ _) (fun _ h => nomatch h) fun r35 b => Sim.prop fun h => ?_ | refine sim_op1 (take_m _ _) (fun _ h => nomatch h) fun r35 b => Sim.prop fun h => ?_
                    subst h
                    (with_reducible repeat (first | refine sA ?_ | refine sB ?_ | refine sC ?_ | refine sD ?_ | refine sE ?_ | refine sF ?_))
                    (first | refine qA (fun h => ?_) fun h => ?_ | refine qB (fun h => ?_) fun h => ?_ | refine qC (fun h => ?_) fun h => ?_ | refine qD (fun h => ?_) fun h => ?_ | refine qE (fun h => ?_) fun h => ?_) -- r35
                    · skip
                      (with_reducible repeat (first | refine sA ?_ | refine sB ?_ | refine sC ?_ | refine sD ?_ | refine sE ?_ | refine sF ?_))
                      first | refine sim_op (must_m _ _) (fun _ h => nomatch h) fun x b => ?_ | refine sim_op1 (must_m _ _) (fun _ h => nomatch h) fun x b => ?_
                      refine sim_ldF (b1 := .int .i64) _ (by repeat (first | exact mz | apply ms)) (by kernel_rfl) rfl rfl ?_
                      refine sim_made0 fun r38 => ?_
                      (with_reducible repeat (first | refine sA ?_ | refine sB ?_ | refine sC ?_ | refine sD ?_ | refine sE ?_ | refine sF ?_))
                      exact sim_ret1 (t := tP) _ rfl (fun F hF => hF _ (by repeat (first | exact mz | apply ms)))
                    · skip
                      (with_reducible repeat (first | refine sA ?_ | refine sB ?_ | refine sC ?_ | refine sD ?_ | refine sE ?_ | refine sF ?_))
                      first | refine sim_op (take_m _ _) (fun _ h => nomatch h) fun r39 b => Sim.prop fun h => ?_ | refine sim_op1 (take_m _ _) (fun _ h => nomatch h) fun r39 b => Sim.prop fun h => ?_
                      subst h
                      (with_reducible repeat (first | refine sA ?_ | refine sB ?_ | refine sC ?_ | refine sD ?_ | refine sE ?_ | refine sF ?_))
                      (first | refine qA (fun h => ?_) fun h => ?_ | refine qB (fun h => ?_) fun h => ?_ | refine qC (fun h => ?_) fun h => ?_ | refine qD (fun h => ?_) fun h => ?_ | refine qE (fun h => ?_) fun h => ?_) -- r39
                      · skip
                        refine sim_ldF (b1 := .int .i64) _ (by repeat (first | exact mz | apply ms)) (by kernel_rfl) rfl rfl ?_
                        (with_reducible repeat (first | refine sA ?_ | refine sB ?_ | refine sC ?_ | refine sD ?_ | refine sE ?_ | refine sF ?_))
                        first | refine sim_op (try_m hR _ _) (fun _ h => nomatch h) fun r41 nr41 => ?_ | refine sim_op1 (try_m hR _ _) (fun _ h => nomatch h) fun r41 nr41 => ?_
                        (with_reducible repeat (first | refine sA ?_ | refine sB ?_ | refine sC ?_ | refine sD ?_ | refine sE ?_ | refine sF ?_))
                        exact sim_ret1 (t := tP) _ rfl (fun F hF => hF _ (by repeat (first | exact mz | apply ms)))
                      · skip
                        refine sim_ldF (b1 := .int .i64) _ (by repeat (first | exact mz | apply ms)) (by kernel_rfl) rfl rfl ?_
                        (with_reducible repeat (first | refine sA ?_ | refine sB ?_ | refine sC ?_ | refine sD ?_ | refine sE ?_ | refine sF ?_))
                        first | refine sim_op (ended_m hR _ _ _ _) (fun _ h => nomatch h) fun r43 nr43 => ?_ | refine sim_op1 (ended_m hR _ _ _ _) (fun _ h => nomatch h) fun r43 nr43 => ?_
                        (with_reducible repeat (first | refine sA ?_ | refine sB ?_ | refine sC ?_ | refine sD ?_ | refine sE ?_ | refine sF ?_))
                        exact sim_ret1 (t := tP) _ rfl (fun F hF => hF _ (by repeat (first | exact mz | apply ms)))
end Go.Proofs.YtjlgcpgjdgeejaaGreatDoor
end

/- All of the parser's functions do what their specifications say. Conditions: the numbers' conversion. -/
section
namespace Go.Proofs.YtjlgcpgjdgeejaaGreatDoor
open Go
set_option maxRecDepth 100000
theorem stop_meets {β : Type} {t : Ty} {Rel : β → t.den → Fact} {s0 : Sem Next} {I : Ifc Int PSt} : Meets PG I s0 t (Sp.stop : PM β) Rel [] := fun r w F H st res hs => by cases hs
theorem parse_ok (hnum : NumM) : ∀ n, n ≤ 549755813888 → PRecM (parseR n) := by
  intro n
  induction n with
  | zero => exact fun _ => ⟨Nat.zero_le _, hnum, fun _ => stop_meets, fun _ => stop_meets, fun _ => stop_meets, fun _ => stop_meets, fun _ => stop_meets, fun _ => stop_meets, fun _ _ => stop_meets⟩
  | succ n ih =>
    intro h
    have hR := ih (by omega)
    have hf : (parseR (n + 1)).fuel = n + 1 := by
      have : ∀ n, (parseR n).fuel = n := fun n => by induction n with
        | zero => rfl
        | succ n ih => show (parseR n).fuel + 1 = n + 1; rw [ih]
      exact this _
    exact ⟨by rw [hf]; exact h, hnum, fun pb => expr_m hR pb, fun pb => typed_m hR pb, fun pb => block_m hR pb, fun pb => unary_m hR pb, fun pb => branch_m hR pb, fun pb => statement_m hR pb, fun pb t => declaration_m hR pb t⟩
end Go.Proofs.YtjlgcpgjdgeejaaGreatDoor
end

/- Slices that a call owns: shortened, read, one cell written. Conditions: none (general tools). -/
section
namespace Go.Proofs.YtjlgcpgjdgeejaaGreatDoor
open Go
set_option linter.unusedSimpArgs false
set_option linter.unusedVariables false
set_option linter.constructorNameAsVariable false

theorem Buf.open {e : TypeId} {size : Nat} {x : SlD} {xs : List Value} {K : Own} (h : Buf e size x xs K) (hp : 0 < x.2.1) :
    ∃ g cells, K = [(g, blk e cells)] ∧ x.1 = some ⟨g, 0, none⟩ ∧ xs.length = x.2.1 * size ∧ x.2.1 ≤ x.2.2 ∧ x.2.2 ≤ maxLen ∧ cells.length = x.2.2 * size ∧ cells.take (x.2.1 * size) = xs := by
  rcases h with ⟨_, rfl, _⟩ | h
  · simp at hp
  · exact h
theorem Buf.take {e : TypeId} {size m : Nat} {x : SlD} {xs : List Value} {K : Own} (h : Buf e size x xs K) (hm : m ≤ x.2.1) : Buf e size (x.1, m, x.2.2) (xs.take (m * size)) K := by
  rcases h with ⟨rfl, rfl, rfl⟩ | ⟨g, cells, h1, h2, h3, h4, h5, h6, h7⟩
  · have : m = 0 := by simpa using hm
    subst this
    exact .inl ⟨rfl, rfl, by simp⟩
  · refine .inr ⟨g, cells, h1, h2, ?_, Nat.le_trans hm h4, h5, h6, ?_⟩
    · have := Nat.mul_le_mul_right size hm
      simp only [List.length_take, h3]; omega
    · show cells.take (m * size) = _
      have := Nat.mul_le_mul_right size hm
      rw [← h7, List.take_take, Nat.min_eq_left this]
theorem Buf.row {e : TypeId} {size i : Nat} {x : SlD} {cells xs : List Value} (h7 : cells.take (x.2.1 * size) = xs) (hi : i < x.2.1) : (cells.drop (i * size)).take size = (xs.drop (i * size)).take size := by
  rw [← h7, List.drop_take, List.take_take]
  congr 1
  have : i * size + size ≤ x.2.1 * size := by rw [← Nat.succ_mul]; exact Nat.mul_le_mul_right _ hi
  omega
theorem splice_len (l : List Value) (o : Nat) (vs : List Value) (h : o + vs.length ≤ l.length) : (splice l o vs).length = l.length := by
  simp [splice]; omega
theorem splice_take (l : List Value) (o n : Nat) (vs : List Value) (h : o + vs.length ≤ n) (hn : n ≤ l.length) : (splice l o vs).take n = splice (l.take n) o vs := by
  unfold splice
  rw [List.take_append, List.take_append, List.take_of_length_le (l := l.take o) (by simp; omega), List.take_of_length_le (l := vs) (by simp; omega), List.take_take, Nat.min_eq_left (by omega), List.drop_take]
  congr 1
  congr 1
  simp; omega
theorem Buf.set {e : TypeId} {size o : Nat} {x : SlD} {xs vs cells : List Value} {g : Nat} (h2 : x.1 = some ⟨g, 0, none⟩) (h3 : xs.length = x.2.1 * size) (h4 : x.2.1 ≤ x.2.2) (h5 : x.2.2 ≤ maxLen) (h6 : cells.length = x.2.2 * size) (h7 : cells.take (x.2.1 * size) = xs)
    (ho : o + vs.length ≤ x.2.1 * size) : Buf e size x (splice xs o vs) [(g, blk e (splice cells o vs))] := by
  have hle : x.2.1 * size ≤ cells.length := by rw [h6]; exact Nat.mul_le_mul_right _ h4
  refine .inr ⟨g, _, rfl, h2, ?_, h4, h5, ?_, ?_⟩
  · rw [splice_len _ _ _ (by omega), h3]
  · rw [splice_len _ _ _ (by omega), h6]
  · rw [splice_take _ _ _ _ ho hle, h7]
theorem run_subH {P : Program} {t : TypeId} {a : Option Addr} {len cap : Nat} {k : IntKind} {h : Int} {w : World} (hu : P.underlying t = some (.slice (P.elem t))) (hs : ∃ i, P.info? (P.elem t) = some i) (ha : ∀ b, a = some b → b.spot = none) (h0 : 0 ≤ h) (h2 : h ≤ cap) :
    (subS t (.slice a len cap) none (some (.int k h)) none).run P w = .ok (.value (.slice a h.toNat cap)) w := by
  obtain ⟨i, hi⟩ := hs
  have : (Instr.sliceAt t (.slice a len cap) none (some (.int k h)) none).run P w = .ok (.slice a h.toNat cap) w := by
    rw [run_sliceAt_slice w t _ _ _ _ hu, run_slice_h w t a len cap hu k h h0 h2]
    simp only [sizeOf, typeInfo, Sem.run_bind, run_program, Result.andThen_ok, hi, Sem.run_pure, sliced, Nat.sub_zero]
    congr 2
    split
    · rfl
    · cases a with
      | none => rfl
      | some b =>
        obtain ⟨bb, bo, bs⟩ := b
        have : bs = none := ha _ rfl
        subst this
        simp [Addr.add]
  simp [subS, valS, this]
end Go.Proofs.YtjlgcpgjdgeejaaGreatDoor
end

/- A tree laid out in a row. Conditions: none. -/
section
namespace Go.Proofs.YtjlgcpgjdgeejaaGreatDoor
open Go
set_option linter.unusedSimpArgs false
set_option linter.unusedVariables false
set_option linter.constructorNameAsVariable false
set_option maxRecDepth 100000

structure FN where
  kind : Int
  text : ByteArray
  num : Int
  pos : Int
  kids : List Int
structure E where
  f : FN
  ks : SlD
  K : Own
def encE (e : E) : List Value := [.int .i64 e.f.kind, .string e.f.text, .int .i64 e.f.num, .slice e.ks.1 e.ks.2.1 e.ks.2.2, .int .i64 e.f.pos]
theorem encE_len (e : E) : (encE e).length = 5 := rfl
def EOk (e : E) : Prop := Buf T_int 1 e.ks (e.f.kids.map (Value.int .i64)) e.K
def esK (es : List E) : Own := es.flatMap (·.K)
def TreeP (es : List E) (x : SlD) (K : Own) : Prop := ∃ K0, K = K0 ++ esK es ∧ Buf T_api_Node 5 x (rows encE es) K0 ∧ ∀ e ∈ es, EOk e
mutual
def N.size : N → Nat
  | .mk _ _ _ _ l => 1 + N.sizes l
def N.sizes : List N → Nat
  | [] => 0
  | n :: l => n.size + N.sizes l
end
theorem sizes_append : ∀ (a b : List N), N.sizes (a ++ b) = N.sizes a + N.sizes b
  | [], b => by simp [N.sizes]
  | n :: a, b => by simp only [List.cons_append, N.sizes, sizes_append a b]; omega
theorem N.size_eq (n : N) : n.size = 1 + N.sizes n.kids := by cases n; simp [N.size, N.kids]
theorem sizes_reverse : ∀ (a : List N), N.sizes a.reverse = N.sizes a
  | [] => rfl
  | n :: a => by simp only [List.reverse_cons, sizes_append, sizes_reverse a, N.sizes]; omega
theorem sizes_le : ∀ (l : List N), l.length ≤ N.sizes l
  | [] => by simp [N.sizes]
  | n :: l => by have := sizes_le l; have := N.size_eq n; simp only [List.length_cons, N.sizes]; omega
def addKid (ns : List FN) (p : Int) (i : Nat) : List FN := if 0 ≤ p then ns.modify p.toNat (fun f => { f with kids := f.kids ++ [(i : Int)] }) else ns
def laidGo : Nat → List (N × Int) → List FN → List FN
  | 0, _, ns => ns
  | _ + 1, [], ns => ns
  | k + 1, (n, p) :: rest, ns => laidGo k (n.kids.map (fun c => (c, (ns.length : Int))) ++ rest) (addKid (ns ++ [⟨n.kind, n.text, n.num, n.pos, []⟩]) p ns.length)
theorem laidGo_nil (k : Nat) (ns : List FN) : laidGo k [] ns = ns := by cases k <;> rfl
theorem addKid_len (ns : List FN) (p : Int) (i : Nat) : (addKid ns p i).length = ns.length := by unfold addKid; split <;> simp
def encPl (p : Option Addr × Int) : List Value := [.pointer p.1, .int .i64 p.2]
theorem encPl_len (p : Option Addr × Int) : (encPl p).length = 2 := rfl
theorem loc_oneV {L : Own} {Γ : List Fact} {t e : TypeId} {size : Nat} {v z : Value} (row : List Value) (ht : slOf PG t = some (e, size)) (hz : (PG.info? e).bind (·.zero) = some z) (h0 : 0 < size) (h1 : size ≤ 1000)
    (hf : Instr.fill (fun i => some (i * size, size)) ((Array.range (1 * size)).map (z.cells[· % z.cells.size]!)) [(0, v)] = some row.toArray) :
    Loc PG (sliceS t 1 #[(0, v)]) tSl L Γ fun y L' Γ' => ∃ b, y = (some ⟨b, 0, none⟩, 1, 1) ∧ L' = L ∧ Γ' = Fact.at b (blk e row) :: Γ :=
  Loc.val fun r w F H hF hsp => ⟨(some ⟨w.heap.size, 0, none⟩, 1, 1), w.alloc (blk e row), L, _, F.ins w.heap.size (blk e row), .inl (by
      have := run_sliceS (P := PG) (w := w) (t := t) (e := e) (n := 1) (size := size) (ps := #[(0, v)]) (cells := row.toArray) (zero := z) ht (by omega) hz hf (by omega)
      have h2 : (sliceS t 1 #[(0, v)]).run PG w = .ok (.value (.slice (some ⟨w.heap.size, 0, none⟩) 1 1)) (w.alloc (blk e row)) := by simpa using this
      exact h2), hsp.new_le _,
    Holds.cons (by simp [Fact.at, Heap.ins]) (hF.mono (hsp.new_le _)), hsp.newF _, w.heap.size, rfl, rfl, rfl⟩
theorem rows_snoc {α : Type} (f : α → List Value) (l : List α) (x : α) : rows f (l ++ [x]) = rows f l ++ f x := by rw [rows_append]; simp [rows]
theorem esK_snoc (es : List E) (e : E) : esK (es ++ [e]) = esK es ++ e.K := by simp [esK]
theorem NodesAt.split {F : Heap} {p : Option Addr} {n : N} : ∀ {ps : List (Option Addr)} {ns : List N}, NodesAt F (ps ++ [p]) (ns ++ [n]) → NodesAt F ps ns ∧ NodeAt F p n
  | [], [], h => by cases h with | cons _ _ _ _ h1 h2 => exact ⟨.nil, h1⟩
  | [], m :: ns, h => by
    cases h with | cons _ _ _ _ h1 h2 => have := NodesAt.length h2; simp at this
  | q :: ps, [], h => by
    cases h with | cons _ _ _ _ h1 h2 => have := NodesAt.length h2; simp at this
  | q :: ps, m :: ns, h => by
    cases h with
    | cons _ _ _ _ h1 h2 =>
      obtain ⟨g1, g2⟩ := NodesAt.split h2
      exact ⟨.cons _ _ _ _ h1 g1, g2⟩
theorem NodesAt.get {F : Heap} : ∀ {ps : List (Option Addr)} {ns : List N}, NodesAt F ps ns → ∀ i (h : i < ns.length), ∃ p, ps[i]? = some p ∧ NodeAt F p ns[i]
  | _, _, .nil, i, h => by simp at h
  | _, _, .cons p n ps ns h1 h2, 0, h => ⟨p, rfl, h1⟩
  | _, _, .cons p n ps ns h1 h2, i + 1, h => by
    obtain ⟨q, g1, g2⟩ := NodesAt.get h2 i (by simpa using h)
    exact ⟨q, by simpa using g1, by simpa using g2⟩

theorem nil_or_snoc {α : Type} (l : List α) : l = [] ∨ ∃ l' b, l = l' ++ [b] := by
  rcases List.eq_nil_or_concat l with h | ⟨l', b, h⟩
  · exact .inl h
  · exact .inr ⟨l', b, by rw [h, List.concat_eq_append]⟩
section
variable {ε σ β : Type} {I : Ifc ε σ} {t : Ty} {Rel : β → t.den → Own → Fact} {Δ : Labels ε σ β} {q : Option Quiet} {L : Own} {Γ : List Fact} {s : Sp ε σ β}
theorem addr_add0 (g n : Nat) : (⟨g, 0, none⟩ : Addr).add n = ⟨g, n, none⟩ := by unfold Addr.add; simp; intro h; omega
theorem sim_idxO {T1 : TypeId} {n g : Nat} {x : SlD} {i : Int} {k : Addr → T} (j : Nat) (ha : x.1 = some ⟨g, 0, none⟩) (ht : slN PG T1 = some n) (hi : i = j) (hj : j < x.2.1) (hk : Sim PG I t Rel Δ none (k ⟨g, j * n, none⟩) s L Γ) :
    Sim PG I t Rel Δ q (.op (idxAS T1 (.slice x.1 x.2.1 x.2.2) (.int .i64 i)) tA k) s L Γ := by
  refine sim_loc (t1 := tA) (post := fun y L' Γ' => y = ⟨g, j * n, none⟩ ∧ L' = L ∧ Γ' = Γ) ?_ ?_
  · refine Loc.val fun r w F H hF hsp => ⟨_, w, _, _, F, .inl ?_, Heap.le.refl F, hF, hsp, rfl, rfl, rfl⟩
    rw [hi, ha, run_idxA ht (by omega) (by omega), addr_add0]; rfl
  · rintro _ _ _ ⟨rfl, rfl, rfl⟩; exact hk
theorem sim_ldOA {T1 T0 : TypeId} {a : Addr} {bs : List B} {l : List Value} {k : HB bs → T} (x : HB bs) (hr : (a.block, blk T0 l) ∈ L) (hs : shapeOf PG T1 = some (true, (HB.enc bs x).length)) (ha : a.spot = none) (hv : (l.drop a.off).take (HB.enc bs x).length = HB.enc bs x)
    (hk : Sim PG I t Rel Δ none (k x) s L Γ) : Sim PG I t Rel Δ q (.op (ldS T1 (.pointer (some a))) (.c (.agg bs)) k) s L Γ := by
  refine sim_loc (loc_ldA x (Rd.own hr) hs ha hv) ?_
  rintro _ _ _ ⟨rfl, rfl, rfl⟩
  exact hk
theorem sim_ldO1 {T1 T0 : TypeId} {a : Addr} {b1 : B} {l : List Value} {k : b1.den → T} (x : b1.den) (hr : (a.block, blk T0 l) ∈ L) (hs : isOne PG T1 = some true) (ha : a.spot = none) (hv : l[a.off]? = some (b1.enc x))
    (hk : Sim PG I t Rel Δ none (k x) s L Γ) : Sim PG I t Rel Δ q (.op (ldS T1 (.pointer (some a))) (.c (.b b1)) k) s L Γ := by
  refine sim_loc (loc_ld1 x (Rd.own hr) hs ha hv) ?_
  rintro _ _ _ ⟨rfl, rfl, rfl⟩
  exact hk
theorem sim_subO {T1 : TypeId} {x : SlD} {h : Int} {k : SlD → T} (m : Nat) (hu : PG.underlying T1 = some (.slice (PG.elem T1))) (hi : ((PG.info? (PG.elem T1)).isSome) = true) (ha : ∀ b, x.1 = some b → b.spot = none) (hm : h = m) (hc : m ≤ x.2.2) (hk : Sim PG I t Rel Δ none (k (x.1, m, x.2.2)) s L Γ) :
    Sim PG I t Rel Δ q (.op (subS T1 (.slice x.1 x.2.1 x.2.2) none (some (.int .i64 h)) none) tSl k) s L Γ := by
  refine sim_loc (t1 := tSl) (post := fun y L' Γ' => y = (x.1, m, x.2.2) ∧ L' = L ∧ Γ' = Γ) ?_ ?_
  · refine Loc.val fun r w F H hF hsp => ⟨_, w, _, _, F, .inl ?_, Heap.le.refl F, hF, hsp, rfl, rfl, rfl⟩
    rw [hm, run_subH hu (Option.isSome_iff_exists.1 hi) ha (by omega) (by omega)]; rfl
  · rintro _ _ _ ⟨rfl, rfl, rfl⟩; exact hk
end
theorem splice_mid (a b c vs : List Value) (o : Nat) (h : o + vs.length ≤ b.length) : splice (a ++ (b ++ c)) (a.length + o) vs = a ++ (splice b o vs ++ c) := by
  unfold splice
  have e1 : (a ++ (b ++ c)).take (a.length + o) = a ++ b.take o := by
    rw [List.take_append, List.take_of_length_le (by omega), List.take_append, Nat.add_sub_cancel_left]
    have : o - b.length = 0 := by omega
    rw [this]; simp
  have e2 : (a ++ (b ++ c)).drop (a.length + o + vs.length) = b.drop (o + vs.length) ++ c := by
    rw [List.drop_append, List.drop_eq_nil_of_le (by omega), List.nil_append, List.drop_append]
    have e3 : a.length + o + vs.length - a.length = o + vs.length := by omega
    have e4 : o + vs.length - b.length = 0 := by omega
    rw [e3, e4]; simp
  rw [e1, e2]; simp [List.append_assoc]
theorem modify_mid {α : Type} (l1 l2 : List α) (y : α) (g : α → α) : (l1 ++ y :: l2).modify l1.length g = l1 ++ g y :: l2 := by
  induction l1 with
  | nil => rfl
  | cons x l1 ih => simp only [List.cons_append, List.length_cons, List.modify_succ_cons, ih]
theorem perm_in (K S : Own) (x : Nat × Obj) (A1 A2 B : Own) : (K ++ (S ++ (x :: (A1 ++ (A2 ++ B))))).Perm (S ++ ((x :: (A1 ++ (K ++ A2))) ++ B)) := by
  have sw : ∀ (a b c : Own), (a ++ (b ++ c)).Perm (b ++ (a ++ c)) := fun a b c => by
    have h := (List.perm_append_comm (l₁ := a) (l₂ := b)).append_right c
    simpa [List.append_assoc] using h
  have h1 := sw K S (x :: (A1 ++ (A2 ++ B)))
  refine h1.trans (List.Perm.append_left S ?_)
  refine List.perm_middle.trans ?_
  rw [List.cons_append]
  refine List.Perm.cons x ?_
  have h2 := sw K A1 (A2 ++ B)
  simpa [List.append_assoc] using h2
def treeB (r1 r2 : Nat) (x : SlD) : Own := [(r2, blk T_api_Tree [.slice x.1 x.2.1 x.2.2]), (r1, blk T_api_Tree [.slice none 0 0])]
theorem sim_addKid {ε σ β : Type} {I : Ifc ε σ} {t : Ty} {Rel : β → t.den → Own → Fact} {Δ : Labels ε σ β} {q : Option Quiet} {Γ : List Fact} {s : Sp ε σ β} {Kst KT : Own} {r1 r2 b7 : Nat} {x : SlD} {es : List E} {pp : Int} {qv : Value} {k : T} (c : Nat) (hT : TreeP es x KT) (j : Nat)
    (hj : j < es.length) (hpp : pp = j) (h7 : Fact.at b7 (blk T_syntax_place [qv, .int .i64 pp]) ∈ Γ) (hb : ∀ e ∈ es, e.f.kids.length ≤ 1099511627776)
    (hk : ∀ es' KT', TreeP es' x KT' → es'.map (·.f) = addKid (es.map (·.f)) pp c → Sim PG I t Rel Δ none k s (Kst ++ (KT' ++ treeB r1 r2 x)) Γ) :
    Sim PG I t Rel Δ q (.draw <| .opq (ldS T_Sapi_Node (.pointer (some ⟨r2, 0, none⟩))) tSl fun r19 => .opq (ldS T_int (.pointer (some ⟨b7, 0 + 1, none⟩))) tI fun r20 => .opq (ldS T_Sapi_Node (.pointer (some ⟨r2, 0, none⟩))) tSl fun r21 => .opq (ldS T_int (.pointer (some ⟨b7, 0 + 1, none⟩))) tI fun r22 =>
      .opq (idxAS T_Sapi_Node (.slice r21.1 r21.2.1 r21.2.2) (.int .i64 r22)) tA fun r23 => .opq (ldS T_Sint (.pointer (some ⟨r23.block, r23.off + 3, none⟩))) tSl fun r24 => .opl (sliceS T_Sint 1 #[(0, .int .i64 (c : Int))]) tSl fun r25 =>
      .opl (appS #[T_Sint, T_Sint] T_Sint #[.slice r24.1 r24.2.1 r24.2.2, .slice r25.1 r25.2.1 r25.2.2]) tSl fun r26 => .opq (idxAS T_Sapi_Node (.slice r19.1 r19.2.1 r19.2.2) (.int .i64 r20)) tA fun r27 => .op (stS T_Sint (.pointer (some ⟨r27.block, r27.off + 3, none⟩)) (.slice r26.1 r26.2.1 r26.2.2)) tU fun _ => k) s
      (Kst ++ (KT ++ treeB r1 r2 x)) Γ := by
  obtain ⟨K0, rfl, hB, hE⟩ := hT
  have hlen : x.2.1 = es.length := by have h1 := hB.len; rw [rows_length encE_len] at h1; omega
  obtain ⟨g, cells, rfl, ha, g3, g4, g5, g6, g7⟩ := hB.open (by omega)
  obtain ⟨E1, e, E2, rfl, hE1⟩ : ∃ E1 e E2, es = E1 ++ e :: E2 ∧ E1.length = j := ⟨es.take j, es[j], es.drop (j + 1), by rw [← List.drop_eq_getElem_cons hj, List.take_append_drop], by simp; omega⟩
  have heok := hE e (by simp)
  have hrow := Buf.row (e := T_api_Node) (i := j) g7 (by omega)
  have hrow2 : ((rows encE (E1 ++ e :: E2)).drop (j * 5)).take 5 = encE e := rows_at encE_len (E1 ++ e :: E2) j e (by rw [← hE1]; simp)
  have hcell : cells[j * 5 + 3]? = some (.slice e.ks.1 e.ks.2.1 e.ks.2.2) := by
    have h1 : ((cells.drop (j * 5)).take 5)[3]? = some (.slice e.ks.1 e.ks.2.1 e.ks.2.2) := by rw [hrow, hrow2]; rfl
    rw [List.getElem?_take, if_pos (by decide), List.getElem?_drop] at h1
    exact h1
  subst hpp
  refine sim_draw [(r2, blk T_api_Tree [.slice x.1 x.2.1 x.2.2]), (g, blk T_api_Node cells)] (fun p hp => by simp [treeB] at hp ⊢; rcases hp with rfl | rfl <;> simp) ?_
  refine sim_opq (t1 := tSl) x (qval_ld1 (QRd.own (List.mem_cons_self ..)) (by kernel_rfl) rfl rfl) ?_
  refine sim_ldFq (b1 := .int .i64) (j : Int) h7 (by kernel_rfl) rfl rfl ?_
  refine sim_opq (t1 := tSl) x (qval_ld1 (QRd.own (List.mem_cons_self ..)) (by kernel_rfl) rfl rfl) ?_
  refine sim_ldFq (b1 := .int .i64) (j : Int) h7 (by kernel_rfl) rfl rfl ?_
  have hidx : ∀ q, QVal PG q (idxAS T_Sapi_Node (.slice x.1 x.2.1 x.2.2) (.int .i64 (j : Int))) (.pointer (some ⟨g, j * 5, none⟩)) := fun q => qval_pure fun w => by
    rw [ha, run_idxA (n := 5) (by kernel_rfl) (by omega) (by omega), addr_add0]; rfl
  refine sim_opq (t1 := tA) _ (hidx _) ?_
  refine sim_opq (t1 := tSl) e.ks (qval_ld1 (T0 := T_api_Node) (l := cells) (QRd.own (List.mem_cons_of_mem _ (List.mem_cons_self ..))) (by kernel_rfl) rfl hcell) ?_
  refine sim_locl (loc_oneV (e := T_int) (size := 1) (z := .int .i64 0) [.int .i64 (c : Int)] (by kernel_rfl) (by kernel_rfl) (by decide) (by decide) (by kernel_rfl)) ?_
  rintro _ _ _ ⟨bn, rfl, rfl, rfl⟩
  refine ⟨fun p hp => by simp [treeB] at hp ⊢; rcases hp with rfl | rfl <;> simp, ?_⟩
  have hek : e.ks.2.1 = e.f.kids.length := by have h1 := heok.len; simp at h1; omega
  have hkb := hb e (by simp)
  refine sim_permq (L' := e.K ++ (Kst ++ ((g, blk T_api_Node cells) :: (esK E1 ++ (esK E2 ++ treeB r1 r2 x))))) ?_ ?_
  · have h := perm_in e.K Kst (g, blk T_api_Node cells) (esK E1) (esK E2) (treeB r1 r2 x)
    simpa [esK, List.append_assoc] using h
  refine sim_locl (loc_append (L0 := Kst ++ ((g, blk T_api_Node cells) :: (esK E1 ++ (esK E2 ++ treeB r1 r2 x)))) (K := e.K) (size := 1) (bytes := 8) (e := T_int) (m := 1) (news := [.int .i64 (c : Int)]) (by kernel_rfl) rfl heok (Rd.at (List.mem_cons_self ..)) rfl rfl rfl (by decide) (by simp [Value.oneCell']) (by omega) (by omega)) ?_
  rintro y _ _ ⟨Ke, rfl, rfl, hy, hbuf⟩
  refine ⟨fun p hp => by simp [treeB] at hp ⊢; rcases hp with rfl | rfl <;> simp, ?_⟩
  refine sim_opq (t1 := tA) _ (hidx _) ?_
  have hcl : j * 5 + 3 + 1 ≤ cells.length := by
    have : x.2.1 * 5 ≤ cells.length := by rw [g6]; exact Nat.mul_le_mul_right _ g4
    omega
  refine sim_loc (loc_st (a := ⟨g, j * 5 + 3, none⟩) (L1 := Ke ++ Kst) (L2 := esK E1 ++ (esK E2 ++ treeB r1 r2 x)) (l := cells) (T := T_Sint) (T0 := T_api_Node) (c := false) (by simp) (by kernel_rfl) rfl hcl (by simp [Value.cells, Value.oneCell'])) ?_
  rintro _ _ _ ⟨rfl, rfl⟩
  let e' : E := ⟨{ e.f with kids := e.f.kids ++ [(c : Int)] }, y, Ke⟩
  have hrows : splice (rows encE (E1 ++ e :: E2)) (j * 5 + 3) [.slice y.1 y.2.1 y.2.2] = rows encE (E1 ++ e' :: E2) := by
    rw [rows_append, rows_cons, rows_append, rows_cons]
    have hl1 : (rows encE E1).length = j * 5 := by rw [rows_length encE_len, hE1]; omega
    rw [show j * 5 + 3 = (rows encE E1).length + 3 by rw [hl1], splice_mid _ _ _ _ _ (by simp [encE_len])]
    rfl
  refine sim_perm (L' := Kst ++ (((g, blk T_api_Node (splice cells (j * 5 + 3) [.slice y.1 y.2.1 y.2.2])) :: esK (E1 ++ e' :: E2)) ++ treeB r1 r2 x)) ?_ ?_
  · have h := (perm_in Ke Kst (g, blk T_api_Node (splice cells (j * 5 + 3) [.slice y.1 y.2.1 y.2.2])) (esK E1) (esK E2) (treeB r1 r2 x)).symm
    simpa [esK, e', List.append_assoc, Value.cells] using h
  refine (hk (E1 ++ e' :: E2) _ ⟨[(g, blk T_api_Node (splice cells (j * 5 + 3) [.slice y.1 y.2.1 y.2.2]))], rfl, ?_, ?_⟩ ?_).weak fun A hA => List.mem_cons_of_mem _ hA
  · rw [← hrows]
    exact Buf.set ha g3 g4 g5 g6 g7 (by simp; omega)
  · intro e2 he2
    simp only [List.mem_append, List.mem_cons] at he2
    rcases he2 with h | rfl | h
    · exact hE e2 (by simp [h])
    · show Buf T_int 1 y ((e.f.kids ++ [(c : Int)]).map (Value.int .i64)) Ke
      simpa using hbuf
    · exact hE e2 (by simp [h])
  · unfold addKid
    rw [if_pos (by omega)]
    simp only [List.map_append, List.map_cons, Int.toNat_natCast]
    rw [← hE1, show E1.length = (E1.map (·.f)).length by simp, modify_mid]
theorem sim_addNode {ε σ β : Type} {I : Ifc ε σ} {t : Ty} {Rel : β → t.den → Own → Fact} {Δ : Labels ε σ β} {q : Option Quiet} {Γ : List Fact} {s : Sp ε σ β} {Kst KT : Own} {r1 r2 b7 : Nat} {x : SlD} {es : List E} {pp : Int} {m : N} {qp : Option Addr} {k : T} (hT : TreeP es x KT)
    (h7 : Fact.at b7 (blk T_syntax_place [.pointer qp, .int .i64 pp]) ∈ Γ) (hm : NodeF m qp ∈ Γ) (hb : es.length ≤ 1099511627776)
    (hk : ∀ x' KT', TreeP (es ++ [⟨⟨m.kind, m.text, m.num, m.pos, []⟩, (none, 0, 0), []⟩]) x' KT' → Sim PG I t Rel Δ none k s (Kst ++ (KT' ++ treeB r1 r2 x')) Γ) :
    Sim PG I t Rel Δ q (.draw <| .opq (ldS T_Sapi_Node (.pointer (some ⟨r2, 0, none⟩))) tSl fun r11 => .opq (ldS T_Psyntax_node (.pointer (some ⟨b7, 0, none⟩))) tP fun r12 => .opq (nilS (.pointer r12)) tA fun r13 =>
      .opq (ldS T_api_Node (.pointer (some r13))) (.c (.agg [.int .i64, .str, .int .i64, .slice, .int .i64])) fun r14 =>
      .opl (sliceS T_Sapi_Node 1 #[(0, .agg #[.int .i64 r14.1, .string r14.2.1, .int .i64 r14.2.2.1, .slice r14.2.2.2.1.1 r14.2.2.2.1.2.1 r14.2.2.2.1.2.2, .int .i64 r14.2.2.2.2.1])]) tSl fun r15 =>
      .opl (appS #[T_Sapi_Node, T_Sapi_Node] T_Sapi_Node #[.slice r11.1 r11.2.1 r11.2.2, .slice r15.1 r15.2.1 r15.2.2]) tSl fun r16 =>
      .op (stS T_Sapi_Node (.pointer (some ⟨r2, 0, none⟩)) (.slice r16.1 r16.2.1 r16.2.2)) tU fun _ => k) s (Kst ++ (KT ++ treeB r1 r2 x)) Γ := by
  obtain ⟨K0, rfl, hB, hE⟩ := hT
  have hlen : x.2.1 = es.length := by have h1 := hB.len; rw [rows_length encE_len] at h1; omega
  refine sim_node_at hm fun bn sln hq => ?_
  subst hq
  refine sim_draw [(r2, blk T_api_Tree [.slice x.1 x.2.1 x.2.2])] (fun p hp => by simp [treeB] at hp ⊢; rcases hp with rfl | rfl <;> simp) ?_
  refine sim_opq (t1 := tSl) x (qval_ld1 (QRd.own (List.mem_cons_self ..)) (by kernel_rfl) rfl rfl) ?_
  refine sim_ldFq (b1 := .ptr) (some ⟨bn, 0, none⟩) (List.mem_cons_of_mem _ h7) (by kernel_rfl) rfl rfl ?_
  refine sim_nilq ?_
  refine sim_opq (t1 := .c (.agg [.int .i64, .str, .int .i64, .slice, .int .i64])) (m.kind, m.text, m.num, (none, 0, 0), m.pos, ()) (qval_ldA (QRd.of (fun F hF => hF (Fact.at bn _) (List.mem_cons_self ..))) (by kernel_rfl) rfl rfl) ?_
  refine sim_locl (loc_oneV (e := T_api_Node) (size := 5) (z := .agg #[.int .i64 0, .string kE, .int .i64 0, .slice none 0 0, .int .i64 0]) [.int .i64 m.kind, .string m.text, .int .i64 m.num, .slice none 0 0, .int .i64 m.pos] (by kernel_rfl) (by kernel_rfl) (by decide) (by decide) (by kernel_rfl)) ?_
  rintro _ _ _ ⟨b8, rfl, rfl, rfl⟩
  refine ⟨fun p hp => by simp [treeB] at hp ⊢; rcases hp with rfl | rfl <;> simp, ?_⟩
  refine sim_permq (L' := K0 ++ (Kst ++ (esK es ++ treeB r1 r2 x))) ?_ ?_
  · have h := (List.perm_append_comm (l₁ := K0) (l₂ := Kst)).append_right (esK es ++ treeB r1 r2 x)
    simpa [List.append_assoc] using h
  refine sim_locl (loc_append (L0 := Kst ++ (esK es ++ treeB r1 r2 x)) (K := K0) (size := 5) (bytes := 64) (e := T_api_Node) (m := 1) (news := [.int .i64 m.kind, .string m.text, .int .i64 m.num, .slice none 0 0, .int .i64 m.pos]) (by kernel_rfl) rfl hB (Rd.at (List.mem_cons_self ..)) rfl rfl rfl (by decide) (by simp [Value.oneCell']) (by omega) (by omega)) ?_
  rintro y _ _ ⟨K0', rfl, rfl, hy, hbuf⟩
  refine ⟨fun p hp => by simp [treeB] at hp ⊢; rcases hp with rfl | rfl <;> simp, ?_⟩
  refine sim_loc (loc_st (L1 := K0' ++ (Kst ++ esK es)) (L2 := [(r1, blk T_api_Tree [.slice none 0 0])]) (l := [.slice x.1 x.2.1 x.2.2]) (T := T_Sapi_Node) (T0 := T_api_Tree) (c := false) (by simp [treeB]) (by kernel_rfl) rfl (Nat.le_of_ble_eq_true rfl) (by simp [Value.cells, Value.oneCell'])) ?_
  rintro _ _ _ ⟨rfl, rfl⟩
  refine sim_perm (L' := Kst ++ ((K0' ++ esK es) ++ treeB r1 r2 y)) ?_ ?_
  · have h := (List.perm_append_comm (l₁ := Kst) (l₂ := K0')).append_right (esK es ++ treeB r1 r2 y)
    simpa [List.append_assoc, treeB, splice, Value.cells] using h
  refine (hk y _ ⟨K0', ?_, ?_, ?_⟩).weak fun A hA => List.mem_cons_of_mem _ (List.mem_cons_of_mem _ hA)
  · rw [esK_snoc]; simp
  · rw [rows_snoc]; exact hbuf
  · intro e he
    simp only [List.mem_append, List.mem_singleton] at he
    rcases he with he | rfl
    · exact hE e he
    · exact Buf.nil ..
def stk (S : List (N × Int)) (m : N) (c : Int) (i : Nat) : List (N × Int) := S ++ (m.kids.drop i).reverse.map (fun n => (n, c))
theorem stk_step {S : List (N × Int)} {m : N} {c : Int} {i : Nat} (h : i < m.kids.length) : stk S m c i = stk S m c (i + 1) ++ [(m.kids[i], c)] := by
  unfold stk
  rw [List.drop_eq_getElem_cons h, List.reverse_cons, List.map_append, List.append_assoc]; rfl
theorem sim_pushKids {ε σ β : Type} {I : Ifc ε σ} {t : Ty} {Rel : β → t.den → Own → Fact} {Δ : Labels ε σ β} {q : Option Quiet} {Γ : List Fact} {s : Sp ε σ β} {K1 Lr : Own} {b7 : Nat} {m : N} {qp : Option Addr} {pp : Int} {sl : SlD} {S : List (N × Int)} {PS : List (Option Addr × Int)} (c : Nat) {ksl : SlD}
    (h7 : Fact.at b7 (blk T_syntax_place [.pointer qp, .int .i64 pp]) ∈ Γ) (hm : NodeF m qp ∈ Γ) (hst : Buf T_syntax_place 2 sl (rows encPl PS) K1) (hPS : PS.map (·.2) = S.map (·.2)) (hN : NodesF (S.map (·.1)) (PS.map (·.1)) ∈ Γ)
    (hb : S.length + m.kids.length ≤ 1099511627776) (hkl : ksl.2.1 = m.kids.length)
    (hk : ∀ sl' K1' PS' Γ', Buf T_syntax_place 2 sl' (rows encPl PS') K1' → PS'.map (·.2) = (stk S m c 0).map (·.2) → NodesF ((stk S m c 0).map (·.1)) (PS'.map (·.1)) ∈ Γ' →
      ∀ x, Sim PG I t Rel (Δ.set 2 x) none (.out 1 [.slice sl'.1 sl'.2.1 sl'.2.2]) s (K1' ++ Lr) Γ') :
    Sim PG I t Rel Δ q (.loop 2 [.b .slice, .b (.int .i64)] [.slice sl.1 sl.2.1 sl.2.2, .int .i64 (IntKind.i64.wrap ((ksl.2.1 : Int) - 1))] fun x33 =>
          .ite (decide ((x33.2.1 : Int) ≥ 0)) (
            .op (ldS T_Psyntax_node (.pointer (some ⟨b7, 0, none⟩))) tP fun r34 => .op (nilS (.pointer r34)) tA fun r35 => .op (ldS T_SPsyntax_node (.pointer (some ⟨r35.block, r35.off + 5, none⟩))) tSl fun r36 =>
            .op (idxAS T_SPsyntax_node (.slice r36.1 r36.2.1 r36.2.2) (.int .i64 x33.2.1)) tA fun r37 => .op (ldS T_Psyntax_node (.pointer (some r37))) tP fun r38 =>
            .op (sliceS T_Ssyntax_place 1 #[(0, .agg #[.pointer r38, .int .i64 (c : Int)])]) tSl fun r39 =>
            .op (appS #[T_Ssyntax_place, T_Ssyntax_place] T_Ssyntax_place #[.slice x33.1.1 x33.1.2.1 x33.1.2.2, .slice r39.1 r39.2.1 r39.2.2]) tSl fun r40 =>
            .out 2 [.slice r40.1 r40.2.1 r40.2.2, .int .i64 (IntKind.i64.wrap (x33.2.1 - 1))]) (
            .out 1 [.slice x33.1.1 x33.1.2.1 x33.1.2.2])) s (K1 ++ Lr) Γ := by
  refine sim_loop (x := { ι := { i : Nat // i ≤ m.kids.length }, sp := fun _ => s, J := fun i vs L' => Fact.ex fun sl : SlD => Fact.ex fun K1 : Own => Fact.ex fun PS : List (Option Addr × Int) =>
      (Fact.prop (vs = [.slice sl.1 sl.2.1 sl.2.2, .int .i64 ((i.1 : Int) - 1)] ∧ L' = K1 ++ Lr ∧ Buf T_syntax_place 2 sl (rows encPl PS) K1 ∧ PS.map (·.2) = (stk S m c i.1).map (·.2))).both (NodesF ((stk S m c i.1).map (·.1)) (PS.map (·.1))) }) (fun i => i.1) ⟨m.kids.length, Nat.le_refl _⟩ rfl ?_ ?_ ?_
  · have e : stk S m c m.kids.length = S := by unfold stk; simp
    refine fun F hF => ⟨sl, K1, PS, ⟨?_, rfl, hst, by rw [e]; exact hPS⟩, by show NodesAt F _ ((stk S m c m.kids.length).map (·.1)); rw [e]; exact hF _ hN⟩
    rw [hkl, wrap_id (by omega) (by omega)]
  · rintro i vs L' F ⟨sl, K1, PS, ⟨rfl, _⟩, _⟩; exact ⟨(sl, (i.1 : Int) - 1, ()), rfl⟩
  · rintro ⟨i, hi⟩ L' ⟨sl', i', ⟨⟩⟩
    refine Sim.ex fun sl => Sim.ex fun K1 => Sim.ex fun PS => Sim.both (Sim.prop fun ⟨hv, hL, hst, hPS⟩ => ?_)
    subst hL
    obtain rfl : sl' = sl := by
      obtain ⟨a, b, c⟩ := sl'; obtain ⟨a2, b2, c2⟩ := sl
      have e1 : Value.slice a b c = Value.slice a2 b2 c2 := (List.cons.inj hv).1
      cases e1; rfl
    have hi' : i' = (i : Int) - 1 := by
      have e1 : Value.int .i64 i' = Value.int .i64 ((i : Int) - 1) := (List.cons.inj (List.cons.inj hv).2).1
      cases e1; rfl
    subst hi'
    refine qE (fun h => ?_) (fun h => ?_)
    · have hpos : (0 : Int) ≤ (i : Int) - 1 := of_decide_eq_true h
      obtain ⟨j, rfl⟩ : ∃ j, i = j + 1 := ⟨i - 1, by omega⟩
      have hjlt : j < m.kids.length := hi
      refine sim_keep (A := NodesF ((stk S m c (j + 1)).map (·.1)) (PS.map (·.1))) (List.mem_cons_self ..) ?_
      refine sim_ldF (b1 := .ptr) qp (List.mem_cons_of_mem _ (List.mem_cons_of_mem _ h7)) (by kernel_rfl) rfl rfl ?_
      refine sim_node_kids (n := m) (x := qp) (List.mem_cons_of_mem _ (List.mem_cons_of_mem _ hm)) fun bn sln psn hq => ?_
      subst hq
      refine sim_nil ?_
      refine sim_ldF (b1 := .slice) sln (List.mem_cons_self ..) (by kernel_rfl) rfl rfl ?_
      refine Sim.note (φ := psn.length = m.kids.length) (fun F hF => NodesAt.length (hF (NodesF m.kids psn) (by repeat (first | exact mz | apply ms)))) fun hpl => ?_
      refine Sim.note (φ := ∃ a, sln.1 = some a ∧ a.spot = none) (fun F hF => Sl.addr (hF (Sl 1 encPtr sln psn) (by repeat (first | exact mz | apply ms))) (by omega)) fun ⟨a, ha, _⟩ => ?_
      refine sim_loc (loc_idx (f := encPtr) (l := psn) ha (fun F hF => hF _ (by repeat (first | exact mz | apply ms))) (by kernel_rfl) j (by show ((j + 1 : Nat) : Int) - 1 = _; push_cast; omega) (by omega)) ?_
      rintro _ _ _ ⟨rfl, rfl, rfl⟩
      have hpj : psn[j]? = some psn[j] := List.getElem?_eq_getElem (by omega)
      refine sim_loc (loc_elem1 (f := encPtr) (b := .ptr) encPtr_len ha (fun F hF => hF _ (by repeat (first | exact mz | apply ms))) hpj (by kernel_rfl) psn[j] rfl) ?_
      rintro _ _ _ ⟨rfl, rfl, rfl⟩
      refine sim_loc (loc_oneV (e := T_syntax_place) (size := 2) (z := .agg #[.pointer none, .int .i64 0]) [.pointer psn[j], .int .i64 (c : Int)] (by kernel_rfl) (by kernel_rfl) (by decide) (by decide) (by kernel_rfl)) ?_
      rintro _ _ _ ⟨bp, rfl, rfl, rfl⟩
      have hPl : PS.length = (stk S m c (j + 1)).length := by have := congrArg List.length hPS; simpa using this
      have hsl : sl'.2.1 = PS.length := by have h1 := hst.len; rw [rows_length encPl_len] at h1; omega
      have hstl : (stk S m c (j + 1)).length + (j + 1) ≤ 1099511627776 := by unfold stk; simp; omega
      refine sim_loc (loc_append (L0 := Lr) (K := K1) (size := 2) (bytes := 16) (e := T_syntax_place) (m := 1) (news := [.pointer psn[j], .int .i64 (c : Int)]) (by kernel_rfl) rfl hst (Rd.at (List.mem_cons_self ..)) rfl rfl rfl (by decide) (by simp [Value.oneCell']) (by show (sl'.2.1 + 1) * 16 ≤ _; omega) (by show sl'.2.1 + 1 ≤ _; omega)) ?_
      rintro y _ _ ⟨K1', rfl, rfl, hy, hbuf⟩
      refine sim_outX rfl ⟨⟨j, by omega⟩, Nat.lt_succ_self j⟩ rfl fun F hF => ⟨y, K1', PS ++ [(psn[j], (c : Int))], ⟨?_, rfl, ?_, ?_⟩, ?_⟩
      · show [Value.slice y.1 y.2.1 y.2.2, .int .i64 (IntKind.i64.wrap ((((j + 1 : Nat) : Int) - 1) - 1))] = _
        rw [wrap_id (by omega) (by omega)]
        congr 3; push_cast; omega
      · rw [rows_snoc]; exact hbuf
      · rw [stk_step hjlt, List.map_append, List.map_append, hPS]; rfl
      · show NodesAt F _ _
        rw [stk_step hjlt, List.map_append, List.map_append]
        have h1 : (NodesF ((stk S m c (j + 1)).map (fun s : N × Int => s.1)) (PS.map (fun s : Option Addr × Int => s.1))).p F := hF _ (by repeat (first | exact mz | apply ms))
        have h2 : NodesAt F psn m.kids := hF (NodesF m.kids psn) (by repeat (first | exact mz | apply ms))
        obtain ⟨p, g1, g2⟩ := NodesAt.get h2 j hjlt
        rw [hpj] at g1; cases g1
        exact NodesAt.snoc g2 h1
    · have h0 : ¬ (0 : Int) ≤ (i : Int) - 1 := of_decide_eq_false h
      obtain rfl : i = 0 := by omega
      exact hk sl' K1 PS _ hst hPS (List.mem_cons_self ..) _
def laidL (K1 KT : Own) (r1 r2 : Nat) (x : SlD) : Own := K1 ++ (KT ++ treeB r1 r2 x)
structure LaidOk (k : Nat) (S : List (N × Int)) (ns : List FN) : Prop where
  sz : N.sizes (S.map (·.1)) ≤ k
  bd : ns.length + k ≤ 1099511627776
  pr : ∀ s ∈ S, -1 ≤ s.2 ∧ s.2 < ns.length
  kl : ∀ f ∈ ns, f.kids.length ≤ ns.length
theorem mem_modify {α : Type} {g : α → α} {x : α} : ∀ {l : List α} {i : Nat}, x ∈ l.modify i g → x ∈ l ∨ ∃ y ∈ l, x = g y
  | [], i, h => by cases i <;> simp at h
  | y :: l, 0, h => by
    simp only [List.modify_zero_cons, List.mem_cons] at h
    rcases h with rfl | h
    · exact .inr ⟨y, by simp, rfl⟩
    · exact .inl (by simp [h])
  | y :: l, i + 1, h => by
    simp only [List.modify_succ_cons, List.mem_cons] at h
    rcases h with rfl | h
    · exact .inl (by simp)
    · rcases mem_modify h with h | ⟨z, h1, h2⟩
      · exact .inl (by simp [h])
      · exact .inr ⟨z, by simp [h1], h2⟩
theorem LaidOk.step {k : Nat} {S : List (N × Int)} {ns : List FN} {m : N} {pp : Int} (h : LaidOk (k + 1) (S ++ [(m, pp)]) ns) : LaidOk k (stk S m ns.length 0) (addKid (ns ++ [⟨m.kind, m.text, m.num, m.pos, []⟩]) pp ns.length) := by
  obtain ⟨h1, h2, h3, h4⟩ := h
  refine ⟨?_, ?_, ?_, ?_⟩
  · have e : (stk S m ns.length 0).map (·.1) = S.map (·.1) ++ m.kids.reverse := by simp [stk, Function.comp_def]
    rw [e, sizes_append, sizes_reverse]
    simp only [List.map_append, List.map_cons, List.map_nil, sizes_append, N.sizes] at h1
    have := N.size_eq m
    omega
  · rw [addKid_len]; simp; omega
  · intro s hs
    rw [addKid_len]
    simp only [stk, List.drop_zero, List.mem_append, List.mem_map, List.mem_reverse] at hs
    rcases hs with hs | ⟨n, _, rfl⟩
    · have := h3 s (by simp [hs]); simp; omega
    · simp; omega
  · intro f hf
    rw [addKid_len]
    unfold addKid at hf
    split at hf
    · rcases mem_modify hf with hf | ⟨y, hy, rfl⟩
      · simp only [List.mem_append, List.mem_singleton] at hf
        rcases hf with hf | rfl
        · have := h4 f hf; simp; omega
        · simp
      · simp only [List.mem_append, List.mem_singleton] at hy
        rcases hy with hy | rfl
        · have := h4 y hy; simp; omega
        · simp
    · simp only [List.mem_append, List.mem_singleton] at hf
      rcases hf with hf | rfl
      · have := h4 f hf; simp; omega
      · simp
theorem laidGo_step (k : Nat) (S : List (N × Int)) (ns : List FN) (m : N) (pp : Int) : laidGo (k + 1) (S ++ [(m, pp)]).reverse ns = laidGo k (stk S m ns.length 0).reverse (addKid (ns ++ [⟨m.kind, m.text, m.num, m.pos, []⟩]) pp ns.length) := by
  simp [stk, laidGo]
def lbLaid (r1 r2 : Nat) (res : List FN) {ε σ : Type} : Label ε σ (List FN) :=
  { ι := { j : Nat × List (N × Int) × List FN // LaidOk j.1 j.2.1 j.2.2 ∧ laidGo j.1 j.2.1.reverse j.2.2 = res }, sp := fun _ => Pure.pure res,
    J := fun j vs L' => Fact.ex fun sl : SlD => Fact.ex fun K1 : Own => Fact.ex fun PS : List (Option Addr × Int) => Fact.ex fun x : SlD => Fact.ex fun es : List E => Fact.ex fun KT : Own =>
      (Fact.prop (vs = [.slice sl.1 sl.2.1 sl.2.2] ∧ L' = laidL K1 KT r1 r2 x ∧ Buf T_syntax_place 2 sl (rows encPl PS) K1 ∧ TreeP es x KT ∧ es.map (·.f) = j.1.2.2 ∧ PS.map (·.2) = j.1.2.1.map (·.2))).both (NodesF (j.1.2.1.map (·.1)) (PS.map (·.1))) }
def laidS {ε σ : Type} (n : N) : Sp ε σ (List FN) := if n.size ≤ 549755813888 then Pure.pure (laidGo n.size [(n, -1)] []) else Sp.stop
def TreeO (l : List FN) (x : HB [.slice]) (K : Own) : Fact := Fact.ex fun es : List E => Fact.prop (es.map (·.f) = l ∧ TreeP es x.1 K)
theorem laid_m {ε σ : Type} (I : Ifc ε σ) (n : N) (p : Option Addr) : MeetsO PG I (callS F_syntax_laid #[.pointer p]) (.c (.agg [.slice])) (laidS n) TreeO [NodeF n p] := by
  refine c_syntax_laid p ?_
  unfold t_syntax_laid laidS
  by_cases hsz : n.size ≤ 549755813888
  case neg => rw [if_neg hsz]; exact sim_stop
  rw [if_pos hsz]
  refine sim_loc (loc_alloc (z := [.slice none 0 0]) (by kernel_rfl)) ?_
  rintro _ _ _ ⟨r1, rfl, rfl, rfl⟩
  refine sim_loc (loc_alloc (z := [.slice none 0 0]) (by kernel_rfl)) ?_
  rintro _ _ _ ⟨r2, rfl, rfl, rfl⟩
  -- the stack's first place
  refine sim_loc (t1 := tSl) (post := fun y L' Γ' => ∃ b, y = (some ⟨b, 0, none⟩, 1, 1) ∧ L' = (b, blk T_syntax_place [.pointer p, .int .i64 (-1)]) :: [(r2, blk T_api_Tree [.slice none 0 0]), (r1, blk T_api_Tree [.slice none 0 0])] ∧ Γ' = [NodeF n p]) ?_ ?_
  · refine Loc.val fun r w F H hF hsp => ⟨(some ⟨w.heap.size, 0, none⟩, 1, 1), w.alloc (blk T_syntax_place [.pointer p, .int .i64 (-1)]), _, _, F, .inl ?_, Heap.le.refl F, hF, (hsp.new _).perm List.perm_middle, w.heap.size, rfl, rfl, rfl⟩
    have := run_sliceS (P := PG) (w := w) (t := T_Ssyntax_place) (e := T_syntax_place) (n := 1) (size := 2) (ps := #[(0, .agg #[.pointer p, .int .i64 (-1)])]) (cells := #[.pointer p, .int .i64 (-1)]) (zero := .agg #[.pointer none, .int .i64 0]) (by kernel_rfl) (by decide) (by kernel_rfl) (by kernel_rfl) (by decide)
    have h2 : (sliceS T_Ssyntax_place 1 #[(0, .agg #[.pointer p, .int .i64 (-1)])]).run PG w = .ok (.value (.slice (some ⟨w.heap.size, 0, none⟩) 1 1)) (w.alloc (blk T_syntax_place [.pointer p, .int .i64 (-1)])) := by simpa using this
    exact h2
  rintro _ _ _ ⟨bs, rfl, rfl, rfl⟩
  generalize hres : laidGo n.size [(n, -1)] [] = res
  refine sim_join (x := { ι := Unit, sp := fun _ => Pure.pure res, J := fun _ vs L' => Fact.ex fun x : SlD => Fact.ex fun es : List E => Fact.ex fun KT : Own => Fact.prop (vs = [] ∧ L' = KT ++ [(r2, blk T_api_Tree [.slice x.1 x.2.1 x.2.2]), (r1, blk T_api_Tree [.slice none 0 0])] ∧ TreeP es x KT ∧ es.map (·.f) = res) }) ?_ fun _ vs L' => ⟨?_, ?_⟩
  · refine sim_loop (x := lbLaid r1 r2 res) (fun j => j.1.1) ⟨(n.size, [(n, -1)], []), ⟨by simp [N.sizes], by simp; omega, by simp, by simp⟩, hres⟩ rfl
      (fun F hF => ⟨(some ⟨bs, 0, none⟩, 1, 1), [(bs, blk T_syntax_place [.pointer p, .int .i64 (-1)])], [(p, -1)], (none, 0, 0), [], [], ⟨rfl, rfl, ?_, ⟨[], rfl, Buf.nil .., by simp⟩, rfl, rfl⟩, NodesAt.one (hF _ (List.mem_cons_self ..))⟩) ?_ ?_
    · exact .inr ⟨bs, _, rfl, rfl, rfl, Nat.le_refl _, by show (1 : Nat) ≤ maxLen; unfold maxLen; decide, rfl, rfl⟩
    · rintro j vs L' F ⟨sl, K1, PS, x, es, KT, ⟨rfl, _⟩, _⟩; exact ⟨(sl, ()), rfl⟩
    · rintro ⟨⟨k, S, ns⟩, hok, hgo⟩ L' ⟨sl', ⟨⟩⟩
      refine Sim.ex fun sl => Sim.ex fun K1 => Sim.ex fun PS => Sim.ex fun x => Sim.ex fun es => Sim.ex fun KT => Sim.both (Sim.prop fun ⟨hv, hL, hst, htr, hes, hPS⟩ => ?_)
      subst hL
      obtain rfl : sl' = sl := by
        obtain ⟨a, b, c⟩ := sl'; obtain ⟨a2, b2, c2⟩ := sl
        have e1 : Value.slice a b c = Value.slice a2 b2 c2 := (List.cons.inj hv).1
        cases e1; rfl
      replace hgo : laidGo k S.reverse ns = res := hgo
      replace hok : LaidOk k S ns := hok
      replace hes : es.map (·.f) = ns := hes
      replace hPS : PS.map (·.2) = S.map (·.2) := hPS
      have hlen : PS.length = S.length := by have := congrArg List.length hPS; simpa using this
      have hsl : sl'.2.1 = PS.length := by
        have h1 := hst.len
        rw [rows_length encPl_len] at h1; omega
      refine qE (fun h => ?_) (fun h => ?_)
      · -- a place is taken from the stack
        have hpos : 0 < PS.length := by have h' : (0 : Int) < (sl'.2.1 : Int) := of_decide_eq_true h; omega
        rcases nil_or_snoc PS with rfl | ⟨PS', ⟨q, pp⟩, rfl⟩
        · simp at hpos
        rcases nil_or_snoc S with rfl | ⟨S', ⟨m, pm⟩, rfl⟩
        · simp at hlen
        simp only [List.map_append, List.map_cons, List.map_nil] at hPS
        obtain ⟨hPS', hpp⟩ := List.append_inj' hPS rfl
        obtain rfl : pp = pm := by simpa using hpp
        obtain ⟨g, cells, rfl, ha, g3, g4, g5, g6, g7⟩ := hst.open (by omega)
        have hl1 : sl'.2.1 = PS'.length + 1 := by rw [hsl]; simp
        have hw : IntKind.i64.wrap ((sl'.2.1 : Int) - 1) = ((PS'.length : Nat) : Int) := by
          have hb1 : S'.length + 1 ≤ 1099511627776 := by
            have h1 := sizes_le ((S' ++ [(m, pp)]).map (·.1)); have h2 := hok.sz; have h3 := hok.bd; simp at h1 h2; omega
          have hl2 : PS'.length = S'.length := by simpa using hlen
          rw [wrap_id (by omega) (by omega)]; omega
        have hrow := Buf.row (e := T_syntax_place) (i := PS'.length) g7 (by omega)
        have hrow2 : ((rows encPl (PS' ++ [(q, pp)])).drop (PS'.length * 2)).take 2 = [.pointer q, .int .i64 pp] := by
          rw [rows_snoc, List.drop_append, List.drop_of_length_le (by rw [rows_length encPl_len]; omega), rows_length encPl_len, Nat.mul_comm, Nat.sub_self]; rfl
        refine Sim.know (A := NodesF (S'.map (·.1)) (PS'.map (·.1))) (fun F hF => ?_) (Sim.know (A := NodeF m q) (fun F hF => ?_) ?_)
        · have h1 : NodesAt F ((PS' ++ [(q, pp)]).map (·.1)) ((S' ++ [(m, pp)]).map (·.1)) := hF _ (List.mem_cons_self ..)
          simp only [List.map_append, List.map_cons, List.map_nil] at h1
          exact (NodesAt.split h1).1
        · have h1 : NodesAt F ((PS' ++ [(q, pp)]).map (·.1)) ((S' ++ [(m, pp)]).map (·.1)) := hF _ (List.mem_cons_of_mem _ (List.mem_cons_self ..))
          simp only [List.map_append, List.map_cons, List.map_nil] at h1
          exact (NodesAt.split h1).2
        refine Sim.weak (Γ' := [NodeF m q, NodesF (S'.map (·.1)) (PS'.map (·.1))]) ?_ (fun A hA => by simp only [List.mem_cons, List.not_mem_nil, or_false] at hA; rcases hA with rfl | rfl <;> exact (by repeat (first | exact mz | apply ms)))
        refine sim_idxO (n := 2) (x := sl') PS'.length ha (by kernel_rfl) hw (by omega) ?_
        refine sim_ldOA (T0 := T_syntax_place) (l := cells) (bs := [.ptr, .int .i64]) (q, pp, ()) (List.mem_cons_self ..) (by kernel_rfl) rfl (by
          show ((cells.drop (PS'.length * 2)).take 2) = _
          rw [hrow, hrow2]; rfl) ?_
        refine sim_varF (c := true) (z := [.pointer none, .int .i64 0]) (by kernel_rfl) (by kernel_rfl) rfl (by simp [Value.cells, Value.oneCell']) fun b7 => ?_
        refine sim_subO (x := sl') PS'.length (by kernel_rfl) (by kernel_rfl) (fun b hb => by rw [ha] at hb; cases hb; rfl) hw (by omega) ?_
        refine sim_ldO1 (T0 := T_api_Tree) (l := [.slice x.1 x.2.1 x.2.2]) (b1 := .slice) x (by simp [laidL, treeB]) (by kernel_rfl) rfl rfl ?_
        have hel : es.length = ns.length := by rw [← hes]; simp
        have hxl : x.2.1 = ns.length := by
          obtain ⟨K0, _, hB, _⟩ := htr
          have h1 := hB.len; rw [rows_length encE_len] at h1; omega
        have hk0 : 0 < k := by have h1 := hok.sz; simp only [List.map_append, List.map_cons, List.map_nil, sizes_append, N.sizes] at h1; have := N.size_eq m; omega
        obtain ⟨k', rfl⟩ : ∃ k', k = k' + 1 := ⟨k - 1, by omega⟩
        have hbd := hok.bd
        have hpr := hok.pr (m, pp) (by simp)
        refine sim_addNode (Kst := [(g, blk T_syntax_place cells)]) (b7 := b7) (pp := pp) (m := m) (qp := q) htr (by repeat (first | exact mz | apply ms)) (by repeat (first | exact mz | apply ms)) (by omega) fun x2 KT2 htr2 => ?_
        refine sim_ldF (b1 := .int .i64) pp (by repeat (first | exact mz | apply ms)) (by kernel_rfl) rfl rfl ?_
        refine sim_join (x := { ι := Unit, sp := fun _ => Pure.pure res, J := fun _ vs L' => Fact.ex fun es3 : List E => Fact.ex fun KT3 : Own => Fact.prop (vs = [] ∧ L' = [(g, blk T_syntax_place cells)] ++ (KT3 ++ treeB r1 r2 x2) ∧ TreeP es3 x2 KT3 ∧ es3.map (·.f) = addKid (ns ++ [⟨m.kind, m.text, m.num, m.pos, []⟩]) pp ns.length) }) ?_ fun _ vs L' => ⟨?_, ?_⟩
        · refine qE (fun h => ?_) (fun h => ?_)
          · have hpp0 : (0 : Int) ≤ pp := of_decide_eq_true h
            have hpl : pp < (ns.length : Int) := hpr.2
            refine sim_addKid (b7 := b7) (pp := pp) (qv := .pointer q) x.2.1 htr2 pp.toNat (by simp; omega) (by omega) (by repeat (first | exact mz | apply ms)) ?_ fun es3 KT3 htr3 he3 => ?_
            · intro e he
              have hf : e.f ∈ ns ∨ e.f = ⟨m.kind, m.text, m.num, m.pos, []⟩ := by
                simp only [List.mem_append, List.mem_singleton] at he
                rcases he with he | rfl
                · left; rw [← hes]; exact List.mem_map.2 ⟨e, he, rfl⟩
                · exact .inr rfl
              rcases hf with hf | hf
              · have := hok.kl _ hf; omega
              · rw [hf]; simp
            · refine sim_outX rfl () rfl fun F hF => ⟨es3, KT3, rfl, rfl, htr3, ?_⟩
              rw [he3, hxl, List.map_append, hes]; rfl
          · have hpp0 : ¬ (0 : Int) ≤ pp := of_decide_eq_false h
            refine sim_outX rfl () rfl fun F hF => ⟨_, KT2, rfl, rfl, htr2, ?_⟩
            unfold addKid
            rw [if_neg hpp0, List.map_append, hes]; rfl
        · rintro F ⟨es3, KT3, rfl, _⟩; exact ⟨(), rfl⟩
        · rintro ⟨⟩
          refine Sim.ex fun es3 => Sim.ex fun KT3 => Sim.prop fun ⟨_, hL, htr3, he3⟩ => ?_
          subst hL
          refine sim_ldF (b1 := .ptr) q (by repeat (first | exact mz | apply ms)) (by kernel_rfl) rfl rfl ?_
          refine sim_node_kids (n := m) (x := q) (by repeat (first | exact mz | apply ms)) fun bn sln psn hq => ?_
          subst hq
          refine sim_nil ?_
          refine sim_ldF (b1 := .slice) sln (List.mem_cons_self ..) (by kernel_rfl) rfl rfl ?_
          refine Sim.note (φ := sln.2.1 = m.kids.length) (fun F hF => ?_) fun hkl => ?_
          · have h1 : NodesAt F psn m.kids := hF (NodesF m.kids psn) (by repeat (first | exact mz | apply ms))
            rw [(hF (Sl 1 encPtr sln psn) (by repeat (first | exact mz | apply ms))).1, NodesAt.length h1]
          have htk : Buf T_syntax_place 2 (sl'.1, PS'.length, sl'.2.2) (rows encPl PS') [(g, blk T_syntax_place cells)] := by
            have h1 := hst.take (m := PS'.length) (by omega)
            rw [rows_snoc, List.take_left' (by rw [rows_length encPl_len]; omega)] at h1
            exact h1
          have hsz := hok.sz
          simp only [List.map_append, List.map_cons, List.map_nil, sizes_append, N.sizes] at hsz
          have hs1 := sizes_le (S'.map (·.1))
          have hs2 := sizes_le m.kids
          have hs3 := N.size_eq m
          simp only [List.length_map] at hs1
          rw [show (x.2.1 : Int) = ((ns.length : Nat) : Int) by rw [hxl]]
          refine sim_pushKids (b7 := b7) (m := m) (pp := pp) (sl := (sl'.1, PS'.length, sl'.2.2)) (S := S') (PS := PS') ns.length (ksl := sln) (by repeat (first | exact mz | apply ms)) (by repeat (first | exact mz | apply ms)) htk hPS' (by repeat (first | exact mz | apply ms)) (by omega) hkl fun sl3 K3 PS3 Γ3 hb3 hp3 hn3 xl => ?_
          refine sim_outX (x := { ι := { j : (lbLaid (ε := ε) (σ := σ) r1 r2 res).ι // j.1.1 < k' + 1 }, sp := fun j => (lbLaid r1 r2 res).sp j.1, J := fun j vs L => (lbLaid (ε := ε) (σ := σ) r1 r2 res).J j.1 vs L }) (by simp [Labels.set]) ⟨⟨(k', stk S' m ns.length 0, addKid (ns ++ [⟨m.kind, m.text, m.num, m.pos, []⟩]) pp ns.length), hok.step, by rw [← laidGo_step]; exact hgo⟩, Nat.lt_succ_self k'⟩ rfl
            fun F hF => ⟨sl3, K3, PS3, x2, es3, KT3, ⟨rfl, rfl, hb3, htr3, he3, hp3⟩, hF _ hn3⟩
      · have h0 : PS.length = 0 := by have h' : ¬ (0 : Int) < (sl'.2.1 : Int) := of_decide_eq_false h; omega
        have hS0 : S = [] := List.length_eq_zero_iff.1 (by omega)
        subst hS0
        refine sim_drop (L' := KT ++ [(r2, blk T_api_Tree [.slice x.1 x.2.1 x.2.2]), (r1, blk T_api_Tree [.slice none 0 0])]) (List.sublist_append_right ..) ?_
        refine sim_outX rfl () rfl fun F hF => ⟨x, es, KT, rfl, rfl, htr, ?_⟩
        rw [hes, ← hgo]; simp [laidGo_nil]
  · rintro F ⟨x, es, KT, rfl, _⟩; exact ⟨(), rfl⟩
  · rintro ⟨⟩
    refine Sim.ex fun x => Sim.ex fun es => Sim.ex fun KT => Sim.prop fun ⟨_, hL, htr, hes⟩ => ?_
    subst hL
    refine sim_loc (loc_ldA (bs := [.slice]) (x := (x, ())) (Rd.own (b := r2) (o := blk T_api_Tree [.slice x.1 x.2.1 x.2.2]) (List.mem_append_right _ (List.mem_cons_self ..))) (by kernel_rfl) rfl rfl) ?_
    rintro _ _ _ ⟨rfl, rfl, rfl⟩
    refine sim_loc (loc_st (L1 := KT ++ [(r2, blk T_api_Tree [.slice x.1 x.2.1 x.2.2])]) (L2 := []) (T := T_api_Tree) (T0 := T_api_Tree) (l := [.slice none 0 0]) (c := true) (by simp) (by kernel_rfl) rfl (Nat.le_of_ble_eq_true rfl) (by simp [Value.cells, Value.oneCell'])) ?_
    rintro _ _ _ ⟨rfl, rfl⟩
    refine sim_retO KT (by simp) (x, ()) (fun r w F H hF hsp => run_resRcA (vs := [.slice x.1 x.2.1 x.2.2]) (by kernel_rfl) (hsp.own r1 (blk T_api_Tree [.slice x.1 x.2.1 x.2.2]) (by simp [splice, Value.cells])) rfl rfl) (fun F hF => ⟨es, hes, htr⟩)
end Go.Proofs.YtjlgcpgjdgeejaaGreatDoor
end

/- The scanner: what its functions do to its state, and what they hand back. Conditions: none. -/
section
namespace Go.Proofs.YtjlgcpgjdgeejaaGreatDoor
open Go
set_option linter.unusedSimpArgs false
set_option linter.unusedVariables false
set_option linter.constructorNameAsVariable false
set_option maxRecDepth 100000

def scCells (sl : SlD) (p : Nat) (osl : SlD) : List Value := [.slice sl.1 sl.2.1 sl.2.2, .int .i64 p, .slice osl.1 osl.2.1 osl.2.2]
def SI (b : ByteArray) (sl : SlD) (pb : Nat) : Ifc Empty SSt where
  inv s H := Fact.ex fun osl : SlD => Fact.ex fun K : Own => Fact.prop (H = (pb, blk T_scan_Scanner (scCells sl s.pos osl)) :: K ∧ Buf T_bool 1 osl (s.opn.map Value.bool) K ∧ s.pos ≤ b.size)
  err _ _ := False
section
variable {b : ByteArray} {sl : SlD} {pb : Nat} {β : Type} {t : Ty} {Rel : β → t.den → Own → Fact} {Δ : Labels Empty SSt β} {md : Mode} {L Lq : Own} {Γ Γq : List Fact} {st : SSt} {run : Option (Res Empty SSt β)}
theorem s_le {m : T} (h : st.pos ≤ b.size → SimK PG (SI b sl pb) t Rel Δ md st m run L Γ) : SimK PG (SI b sl pb) t Rel Δ md st m run L Γ :=
  k_inv (fun H F ⟨_, _, _, _, h⟩ => h) h
theorem s_b {k : SlD → T} (hk : SimK PG (SI b sl pb) t Rel Δ none st (k sl) run L Γ) : SimK PG (SI b sl pb) t Rel Δ md st (.op (ldS T_Suint8 (.pointer (some ⟨pb, 0, none⟩))) tSl k) run L Γ :=
  k_rd (b1 := .slice) sl (by kernel_rfl) rfl (fun H F ⟨osl, K, hH, _⟩ => ⟨scCells sl st.pos osl, T_scan_Scanner, hH ▸ List.mem_cons_self .., rfl⟩) hk
theorem s_bq {k : SlD → T} (hk : SimK PG (SI b sl pb) t Rel Δ (some (Γq, Lq)) st (k sl) run L Γ) : SimK PG (SI b sl pb) t Rel Δ (some (Γq, Lq)) st (.opq (ldS T_Suint8 (.pointer (some ⟨pb, 0, none⟩))) tSl k) run L Γ :=
  k_rdq (b1 := .slice) sl (by kernel_rfl) rfl (fun H F ⟨osl, K, hH, _⟩ => ⟨scCells sl st.pos osl, T_scan_Scanner, hH ▸ List.mem_cons_self .., rfl⟩) hk
theorem s_pos {k : Int → T} (hk : SimK PG (SI b sl pb) t Rel Δ none st (k st.pos) run L Γ) : SimK PG (SI b sl pb) t Rel Δ md st (.op (ldS T_int (.pointer (some ⟨pb, 0 + 1, none⟩))) tI k) run L Γ :=
  k_rd (b1 := .int .i64) (st.pos : Int) (by kernel_rfl) rfl (fun H F ⟨osl, K, hH, _⟩ => ⟨scCells sl st.pos osl, T_scan_Scanner, hH ▸ List.mem_cons_self .., rfl⟩) hk
theorem s_posq {k : Int → T} (hk : SimK PG (SI b sl pb) t Rel Δ (some (Γq, Lq)) st (k st.pos) run L Γ) : SimK PG (SI b sl pb) t Rel Δ (some (Γq, Lq)) st (.opq (ldS T_int (.pointer (some ⟨pb, 0 + 1, none⟩))) tI k) run L Γ :=
  k_rdq (b1 := .int .i64) (st.pos : Int) (by kernel_rfl) rfl (fun H F ⟨osl, K, hH, _⟩ => ⟨scCells sl st.pos osl, T_scan_Scanner, hH ▸ List.mem_cons_self .., rfl⟩) hk
theorem s_set {k : T} {v : Int} (n : Nat) (hv : v = n) (hn : n ≤ b.size) (hk : SimK PG (SI b sl pb) t Rel Δ none { st with pos := n } k run L Γ) :
    SimK PG (SI b sl pb) t Rel Δ md st (.op (stS T_int (.pointer (some ⟨pb, 0 + 1, none⟩)) (.int .i64 v)) tU fun _ => k) run L Γ :=
  k_wr (c := false) { st with pos := n } (by kernel_rfl) rfl (by simp [Value.cells, Value.oneCell']) (fun H F ⟨osl, K, hH, hB, hp⟩ => ⟨[], _, _, K, hH, Nat.le_of_ble_eq_true rfl, osl, K, by subst hv; rfl, hB, hn⟩) hk
theorem s_push {k : T} {c : Bool} (hlen : st.opn.length < 1048576) (hk : SimK PG (SI b sl pb) t Rel Δ none { st with opn := st.opn ++ [c] } k run L Γ) :
    SimK PG (SI b sl pb) t Rel Δ md st (.op (ldS T_Sbool (.pointer (some ⟨pb, 0 + 2, none⟩))) tSl fun r21 => .op (sliceS T_Sbool 1 #[(0, .bool c)]) tSl fun r22 => .op (appS #[T_Sbool, T_Sbool] T_Sbool #[.slice r21.1 r21.2.1 r21.2.2, .slice r22.1 r22.2.1 r22.2.2]) tSl fun r23 =>
      .op (stS T_Sbool (.pointer (some ⟨pb, 0 + 2, none⟩)) (.slice r23.1 r23.2.1 r23.2.2)) tU fun _ => k) run L Γ := by
  refine k_lift fun H => at_ex fun osl => at_ex fun K => at_prop fun ⟨hH, hB, hp⟩ => ?_
  subst hH
  refine at_loc (loc_ld1 (b1 := .slice) osl (Rd.own (List.mem_cons_self ..)) (by kernel_rfl) rfl rfl) ?_
  rintro _ _ _ ⟨rfl, rfl, rfl⟩
  refine at_loc (loc_oneV (e := T_bool) (size := 1) (z := .bool false) [.bool c] (by kernel_rfl) (by kernel_rfl) (by decide) (by decide) (by kernel_rfl)) ?_
  rintro _ _ _ ⟨bn, rfl, rfl, rfl⟩
  have hl := hB.len
  simp only [List.length_map] at hl
  refine at_perm (L' := K ++ ((pb, blk T_scan_Scanner (scCells sl st.pos osl)) :: L)) List.perm_middle ?_
  refine at_loc (loc_append (L0 := (pb, blk T_scan_Scanner (scCells sl st.pos osl)) :: L) (K := K) (size := 1) (bytes := 1) (e := T_bool) (m := 1) (news := [.bool c]) (by kernel_rfl) rfl hB (Rd.at (List.mem_cons_self ..)) rfl rfl rfl (by decide) (by simp [Value.oneCell']) (by omega) (by omega)) ?_
  rintro x _ _ ⟨K', rfl, rfl, hx, hb'⟩
  refine at_loc (loc_st (L1 := K') (L2 := L) (l := scCells sl st.pos osl) (T := T_Sbool) (T0 := T_scan_Scanner) (c := false) rfl (by kernel_rfl) rfl (Nat.le_of_ble_eq_true rfl) (by simp [Value.cells, Value.oneCell'])) ?_
  rintro _ _ _ ⟨rfl, rfl⟩
  intro r w F res S hs hF hsp hq
  refine hk ((pb, blk T_scan_Scanner (scCells sl st.pos x)) :: K') r w F res S hs (Holds.cons ⟨x, K', rfl, by simpa using hb', hp⟩ fun A hA => hF A (List.mem_cons_of_mem _ hA)) ?_ trivial
  exact hsp.perm (List.perm_middle (a := (pb, blk T_scan_Scanner (scCells sl st.pos x))) (l₁ := K') (l₂ := L)).symm
theorem s_pop {k : T} {f : Int → Int} (hf : ∀ n : Nat, n ≤ 9223372036854775807 → f n = ((n - 1 : Nat) : Int)) (hk : SimK PG (SI b sl pb) t Rel Δ none { st with opn := st.opn.take (st.opn.length - 1) } k run L Γ) :
    SimK PG (SI b sl pb) t Rel Δ md st (.draw <| .opq (ldS T_Sbool (.pointer (some ⟨pb, 0 + 2, none⟩))) tSl fun r27 => .opq (ldS T_Sbool (.pointer (some ⟨pb, 0 + 2, none⟩))) tSl fun r28 =>
      .opq (subS T_Sbool (.slice r27.1 r27.2.1 r27.2.2) none (some (.int .i64 (f (r28.2.1 : Int)))) none) tSl fun r29 =>
      .op (stS T_Sbool (.pointer (some ⟨pb, 0 + 2, none⟩)) (.slice r29.1 r29.2.1 r29.2.2)) tU fun _ => k) run L Γ := by
  refine k_lift fun H => at_ex fun osl => at_ex fun K => at_prop fun ⟨hH, hB, hp⟩ => ?_
  subst hH
  have hl := hB.len
  simp only [List.length_map, Nat.mul_one] at hl
  have hcap : osl.2.1 ≤ osl.2.2 ∧ osl.2.2 ≤ maxLen ∧ ∀ a, osl.1 = some a → a.spot = none := by
    rcases hB with ⟨_, rfl, _⟩ | ⟨g, cells, _, h2, _, h4, h5, _⟩
    · exact ⟨Nat.le_refl _, by decide, fun a h => by cases h⟩
    · exact ⟨h4, h5, fun a h => by rw [h2] at h; cases h; rfl⟩
  have hf' := hf osl.2.1 (by have := hcap.1; have := hcap.2.1; unfold maxLen at this; omega)
  refine at_draw [(pb, blk T_scan_Scanner (scCells sl st.pos osl))] (fun p hp => by simp at hp; simp [hp]) ?_
  refine at_opq (t1 := tSl) osl (qval_ld1 (QRd.own (List.mem_cons_self ..)) (by kernel_rfl) rfl rfl) ?_
  refine at_opq (t1 := tSl) osl (qval_ld1 (QRd.own (List.mem_cons_self ..)) (by kernel_rfl) rfl rfl) ?_
  refine at_opq (t1 := tSl) (osl.1, osl.2.1 - 1, osl.2.2) (qval_pure fun w => ?_) ?_
  · show (subS T_Sbool (.slice osl.1 osl.2.1 osl.2.2) none (some (.int .i64 (f (osl.2.1 : Int)))) none).run PG w = _
    rw [hf']
    rw [run_subH (k := .i64) (by kernel_rfl) ⟨_, rfl⟩ hcap.2.2 (by omega) (by have := hcap.1; omega)]
    simp [Ty.enc, C.enc, B.enc]
  refine at_loc (loc_st (L1 := []) (L2 := K ++ L) (l := scCells sl st.pos osl) (T := T_Sbool) (T0 := T_scan_Scanner) (c := false) rfl (by kernel_rfl) rfl (Nat.le_of_ble_eq_true rfl) (by simp [Value.cells, Value.oneCell'])) ?_
  rintro _ _ _ ⟨rfl, rfl⟩
  intro r w F res S hs hF hsp hq
  refine hk ((pb, blk T_scan_Scanner (scCells sl st.pos (osl.1, osl.2.1 - 1, osl.2.2))) :: K) r w F res S hs (Holds.cons ⟨_, K, rfl, ?_, hp⟩ fun A hA => hF A hA) hsp trivial
  have := hB.take (m := osl.2.1 - 1) (by omega)
  simpa [List.map_take, hl] using this
end
theorem letter_m {ε : Type} (c : Int) : Meets PG (I0 : Ifc ε Unit) (callS F_scan_Letter #[.int .u8 c]) tB (Pure.pure (letterB c)) RelEq [] := by
  refine c_scan_Letter c (k_open fun st => ?_)
  unfold t_scan_Letter
  repeat' (first | refine k_ite (fun h => ?_) (fun h => ?_) | refine k_ret1 (t := tB) _ rfl ?_)
  all_goals (show _ = _; simp_all [letterB, Pure.pure, Sp.pure] <;> omega)
theorem digit_m {ε : Type} (c : Int) : Meets PG (I0 : Ifc ε Unit) (callS F_scan_Digit #[.int .u8 c]) tB (Pure.pure (digitB c)) RelEq [] := by
  refine c_scan_Digit c (k_open fun st => ?_)
  unfold t_scan_Digit
  repeat' (first | refine k_ite (fun h => ?_) (fun h => ?_) | refine k_ret1 (t := tB) _ rfl ?_)
  all_goals (show _ = _; simp_all [digitB, Pure.pure, Sp.pure] <;> omega)
theorem reserved_m {ε : Type} (s : ByteArray) (hs : s.size ≤ 1048576) : Meets PG (I0 : Ifc ε Unit) (callS F_scan_Reserved #[.string s]) tB (Pure.pure (resB s)) RelEq [MxF] := by
  refine c_scan_Reserved s (k_open fun st => ?_)
  unfold t_scan_Reserved
  refine k_pv (t1 := tS) (k_sp ++ s) (PVal.pure fun w => run_cat _ _ (by have : k_sp.size = 1 := rfl; omega)) ?_
  refine k_pv (t1 := tS) (k_sp ++ s ++ k_sp) (PVal.pure fun w => run_cat _ _ (by have : k_sp.size = 1 := rfl; simp; omega)) ?_
  refine k_val (contains_m _ _ (by decide)) (fun A hA => hA) ?_
  exact k_ret1 (t := tB) _ rfl rfl
end Go.Proofs.YtjlgcpgjdgeejaaGreatDoor
end

/- The scanner's functions: has, cut, word, number, blanks. Conditions: none. -/
section
namespace Go.Proofs.YtjlgcpgjdgeejaaGreatDoor
open Go
set_option linter.unusedSimpArgs false
set_option linter.unusedVariables false
set_option linter.constructorNameAsVariable false
set_option maxRecDepth 100000

section
variable {b : ByteArray} {sl : SlD} {pb : Nat}
theorem k_len {ε σ β : Type} {I : Ifc ε σ} {t : Ty} {Rel : β → t.den → Own → Fact} {Δ : Labels ε σ β} {md : Mode} {L : Own} {Γ : List Fact} {st : σ} {run : Option (Res ε σ β)} {m : T} (hb : ByF sl b ∈ Γ) (h : sl.2.1 = b.size → SimK PG I t Rel Δ md st m run L Γ) : SimK PG I t Rel Δ md st m run L Γ :=
  k_note (fun F hF => ByF.len (hF _ hb)) h
def hasS (b : ByteArray) (k : Nat) (x : ByteArray) : Sp Empty SSt Bool := fun st => some (.ok (hasB b k x) st)
theorem has_m (hb : b.size ≤ 65536) (k : Nat) (hk : k ≤ 131072) (x : ByteArray) (hx : 0 < x.size ∧ x.size ≤ 1000) : Meets PG (SI b sl pb) (callS F_Scanner_has #[.pointer (some ⟨pb, 0, none⟩), .int .i64 k, .string x]) tB (hasS b k x) RelEq [ByF sl b] := by
  refine c_Scanner_has ⟨pb, 0, none⟩ (k : Int) x (k_open fun st => ?_)
  unfold t_Scanner_has
  refine s_b (k_len (by repeat (first | exact mz | apply ms)) fun hl => ?_)
  rw [hl, wrap_id (by omega) (by omega)]
  refine k_ite (fun h => ?_) (fun h => ?_)
  · have h' : k + x.size ≤ b.size := by have := of_decide_eq_true h; omega
    refine s_b ?_
    rw [wrap_id (by omega) (by omega)]
    refine k_pv (t1 := tSl) (subD sl k (k + x.size)) (pv_sub (by repeat (first | exact mz | apply ms)) k (k + x.size) rfl (by simp) (by omega) h') ?_
    refine k_pv (t1 := tS) _ (pv_str (by repeat (first | exact mz | apply ms)) k (k + x.size) (by omega) h' (by omega)) ?_
    exact k_ret1 (t := tB) _ rfl (by simp [hasS, hasB, h'])
  · have h' : ¬ k + x.size ≤ b.size := by have := of_decide_eq_false h; omega
    exact k_ret1 (t := tB) _ rfl (by simp [hasS, hasB, h'])
def cutS (b : ByteArray) (kind : Int) (j : Nat) : Sp Empty SSt Tok := fun st => if st.pos < j ∧ j ≤ b.size then some (.ok (cutT b kind st.pos j) st) else none
theorem cut_m (hb : b.size ≤ 65536) (kind : Int) (j : Nat) : Meets PG (SI b sl pb) (callS F_Scanner_cut #[.pointer (some ⟨pb, 0, none⟩), .int .i64 kind, .int .i64 j]) tTok (cutS b kind j) RelEq [ByF sl b] := by
  refine c_Scanner_cut ⟨pb, 0, none⟩ kind (j : Int) (k_open fun st => ?_)
  unfold cutS
  by_cases hj : st.pos < j ∧ j ≤ b.size
  case neg => rw [if_neg hj]; exact k_none rfl
  rw [if_pos hj]
  unfold t_Scanner_cut
  refine k_loc (loc_alloc (z := [.int .i64 0, .string kE, .int .i64 0, .int .i64 0]) (by kernel_rfl)) ?_
  rintro _ _ _ ⟨b1, rfl, rfl, rfl⟩
  refine k_draw [] (fun _ h => nomatch h) (s_bq (s_posq ?_))
  refine k_pvq (t1 := tSl) (subD sl st.pos j) (pv_sub (b := b) (by repeat (first | exact mz | apply ms)) st.pos j rfl rfl (by omega) hj.2) ?_
  refine k_pvq (t1 := tS) (b.extract st.pos j) (pv_str (by repeat (first | exact mz | apply ms)) st.pos j (by omega) hj.2 (by omega)) (s_posq ?_)
  refine k_loc (loc_st (L1 := []) (L2 := []) (l := [.int .i64 0, .string kE, .int .i64 0, .int .i64 0]) (T := T_api_Token) (T0 := T_api_Token) (c := true) rfl (by kernel_rfl) rfl (Nat.le_of_ble_eq_true rfl) (by simp [Value.cells, Value.oneCell'])) ?_
  rintro _ _ _ ⟨rfl, rfl⟩
  refine k_ret (t := tTok) (cutT b kind st.pos j) (cutT b kind st.pos j) rfl (fun r w F H hF hsp => ?_) fun F hF => rfl
  exact run_resRcA (a := ⟨b1, 0, none⟩) (T0 := T_api_Token) (l := [.int .i64 kind, .string (b.extract st.pos j), .int .i64 st.pos, .int .i64 j]) (vs := [.int .i64 kind, .string (b.extract st.pos j), .int .i64 st.pos, .int .i64 j]) (by kernel_rfl) (hsp.own _ _ (List.mem_append_right _ (List.mem_cons_self ..))) rfl rfl
theorem k_retT {ε σ : Type} {I : Ifc ε σ} {Δ : Labels ε σ Tok} {md : Mode} {L L1 L2 : Own} {Γ : List Fact} {st : σ} {run : Option (Res ε σ Tok)} {b1 : Nat} {l : List Value} (x : Tok) (hL : L = L1 ++ (b1, blk T_api_Token l) :: L2) (hl : l.length = 4) (hrun : run = some (.ok x st)) :
    SimK PG I tTok (pl RelEq) Δ md st (.op (stS T_api_Token (.pointer (some ⟨b1, 0, none⟩)) (.agg #[.int .i64 x.1, .string x.2.1, .int .i64 x.2.2.1, .int .i64 x.2.2.2.1])) tU fun _ => .ret #[.c (.pointer (some ⟨b1, 0, none⟩)) T_api_Token]) run L Γ := by
  refine k_loc (loc_st (L1 := L1) (L2 := L2) (l := l) (T := T_api_Token) (T0 := T_api_Token) (c := true) hL (by kernel_rfl) rfl (by simp [Value.cells, hl]) (by simp [Value.cells, Value.oneCell'])) ?_
  rintro _ _ _ ⟨rfl, rfl⟩
  have hs : splice l 0 (Value.agg #[.int .i64 x.1, .string x.2.1, .int .i64 x.2.2.1, .int .i64 x.2.2.2.1]).cells.toList = encTok x := by
    rw [splice_all (by simp [Value.cells, hl])]; rfl
  refine k_ret (t := tTok) x x hrun (fun r w F H hF hsp => ?_) fun F hF => rfl
  refine run_resRcA (a := ⟨b1, 0, none⟩) (T0 := T_api_Token) (l := encTok x) (vs := encTok x) (by kernel_rfl) (hsp.own _ _ (List.mem_append_right _ (List.mem_append_right _ ?_))) rfl rfl
  show _ ∈ (b1, blk T_api_Token (splice l 0 (Value.agg #[.int .i64 x.1, .string x.2.1, .int .i64 x.2.2.1, .int .i64 x.2.2.2.1]).cells.toList)) :: L2
  rw [hs]; exact List.mem_cons_self ..
theorem k_varT {ε σ β : Type} {I : Ifc ε σ} {t : Ty} {Rel : β → t.den → Own → Fact} {Δ : Labels ε σ β} {md : Mode} {L : Own} {Γ : List Fact} {st : σ} {run : Option (Res ε σ β)} {k : Addr → T} (x : Tok)
    (hk : ∀ b1, SimK PG I t Rel Δ none st (k ⟨b1, 0, none⟩) run ((b1, blk T_api_Token (encTok x)) :: L) Γ) :
    SimK PG I t Rel Δ md st (.op (allocS T_api_Token) tA fun r => .op (stS T_api_Token (.pointer (some r)) (.agg #[.int .i64 x.1, .string x.2.1, .int .i64 x.2.2.1, .int .i64 x.2.2.2.1])) tU fun _ => k r) run L Γ := by
  refine k_loc (loc_alloc (z := [.int .i64 0, .string kE, .int .i64 0, .int .i64 0]) (by kernel_rfl)) ?_
  rintro _ _ _ ⟨b1, rfl, rfl, rfl⟩
  refine k_loc (loc_st (L1 := []) (L2 := L) (l := [.int .i64 0, .string kE, .int .i64 0, .int .i64 0]) (T := T_api_Token) (T0 := T_api_Token) (c := true) rfl (by kernel_rfl) rfl (Nat.le_of_ble_eq_true rfl) (by simp [Value.cells, Value.oneCell'])) ?_
  rintro _ _ _ ⟨rfl, rfl⟩
  exact hk b1
theorem k_varT0 {ε σ β : Type} {I : Ifc ε σ} {t : Ty} {Rel : β → t.den → Own → Fact} {Δ : Labels ε σ β} {md : Mode} {L : Own} {Γ : List Fact} {st : σ} {run : Option (Res ε σ β)} {k : Addr → T}
    (hk : ∀ b1, SimK PG I t Rel Δ none st (k ⟨b1, 0, none⟩) run ((b1, blk T_api_Token (encTok noTok)) :: L) Γ) : SimK PG I t Rel Δ md st (.op (allocS T_api_Token) tA k) run L Γ := by
  refine k_loc (loc_alloc (z := [.int .i64 0, .string kE, .int .i64 0, .int .i64 0]) (by kernel_rfl)) ?_
  rintro _ _ _ ⟨b1, rfl, rfl, rfl⟩
  exact hk b1
theorem k_ldO {ε σ β : Type} {P : Program} {I : Ifc ε σ} {t : Ty} {Rel : β → t.den → Own → Fact} {Δ : Labels ε σ β} {md : Mode} {L : Own} {Γ : List Fact} {st : σ} {run : Option (Res ε σ β)} {T1 T0 : TypeId} {a : Addr} {b1 : B} {l : List Value} {k : b1.den → T} (x : b1.den) (hr : (a.block, blk T0 l) ∈ L) (hs : isOne P T1 = some true) (ha : a.spot = none) (hv : l[a.off]? = some (b1.enc x))
    (hk : SimK P I t Rel Δ none st (k x) run L Γ) : SimK P I t Rel Δ md st (.op (ldS T1 (.pointer (some a))) (.c (.b b1)) k) run L Γ := by
  refine k_loc (loc_ld1 x (Rd.own hr) hs ha hv) ?_
  rintro _ _ _ ⟨rfl, rfl, rfl⟩
  exact hk
theorem k_ldT {ε σ β : Type} {I : Ifc ε σ} {t : Ty} {Rel : β → t.den → Own → Fact} {Δ : Labels ε σ β} {md : Mode} {L : Own} {Γ : List Fact} {st : σ} {run : Option (Res ε σ β)} {b1 : Nat} {k : Tok → T} (x : Tok) (hr : (b1, blk T_api_Token (encTok x)) ∈ L)
    (hk : SimK PG I t Rel Δ none st (k x) run L Γ) : SimK PG I t Rel Δ md st (.op (ldS T_api_Token (.pointer (some ⟨b1, 0, none⟩))) (.c (.agg bsTok)) k) run L Γ := by
  refine k_loc (loc_ldA x (Rd.own hr) (by kernel_rfl) rfl rfl) ?_
  rintro _ _ _ ⟨rfl, rfl, rfl⟩
  exact hk
theorem lbR0 {ε σ β : Type} {Δ : Labels ε σ β} {l : Nat} {x : Label ε σ β} : (Δ.set l x) l = x := by simp [Labels.set]
theorem lbR1 {ε σ β : Type} {Δ : Labels ε σ β} {l l' : Nat} {x y : Label ε σ β} (h : l ≠ l') (hx : Δ l = x) : (Δ.set l' y) l = x := by simp [Labels.set, h, hx]
def wordS (b : ByteArray) : Sp Empty SSt Tok := fun st => (wordV b st.pos).map fun t => .ok t st
def wordT (b : ByteArray) (x : Int) : Sp Empty SSt Tok := fun st => if 0 ≤ x ∧ (st.pos : Int) < x ∧ x ≤ b.size then some (.ok (cutT b (if resB (b.extract st.pos x.toNat) then 2 else 1) st.pos x.toNat) st) else none
def wordL (b : ByteArray) (n : Nat) (x : Int) : Sp Empty SSt Tok := fun st => if 0 ≤ x then (match wordEnd b n x.toNat with
  | none => none
  | some j => wordT b (j : Int) st) else none
theorem wordT_pos {j : Nat} {st : SSt} (h : st.pos < j ∧ j ≤ b.size) : wordT b (j : Int) st = some (.ok (cutT b (if resB (b.extract st.pos j) then 2 else 1) st.pos j) st) := by
  simp only [wordT, Int.toNat_natCast]
  rw [if_pos (show (0 : Int) ≤ (j : Int) ∧ (st.pos : Int) < (j : Int) ∧ (j : Int) ≤ (b.size : Int) by omega)]
theorem wordT_neg {j : Nat} {st : SSt} (h : ¬ (st.pos < j ∧ j ≤ b.size)) : wordT b (j : Int) st = none := by
  simp only [wordT, Int.toNat_natCast]
  rw [if_neg (show ¬ ((0 : Int) ≤ (j : Int) ∧ (st.pos : Int) < (j : Int) ∧ (j : Int) ≤ (b.size : Int)) by omega)]
theorem word_m (hb : b.size ≤ 65536) : Meets PG (SI b sl pb) (callS F_Scanner_word #[.pointer (some ⟨pb, 0, none⟩)]) tTok (wordS b) RelEq [ByF sl b, MxF] := by
  refine c_Scanner_word ⟨pb, 0, none⟩ (k_open fun st => ?_)
  unfold t_Scanner_word
  refine k_varT0 fun b1 => s_pos ?_
  refine k_join (fun x => wordT b x.1) (k_loop (fun n x => wordL b n x.1) (b.size + 1) ((st.pos : Int), ()) rfl ?_ (fun y st => ?_) fun n y st => ?_) fun y st => ?_
  · show wordS b st = wordL b (b.size + 1) (st.pos : Int) st
    simp only [wordL, wordS, wordV, Int.toNat_natCast]
    rw [if_pos (by omega)]
    cases wordEnd b (b.size + 1) st.pos with
    | none => rfl
    | some j =>
      by_cases h : st.pos < j ∧ j ≤ b.size
      · simp only [wordT_pos h]; rw [if_pos h]; rfl
      · simp only [wordT_neg h]; rw [if_neg h]; rfl
  · simp [wordL, wordEnd]
  · obtain ⟨y, ⟨⟩⟩ := y
    by_cases h0 : 0 ≤ y
    case neg => exact k_none (by show wordL b (n + 1) y st = none; simp only [wordL]; rw [if_neg h0])
    obtain ⟨j, rfl⟩ := Int.eq_ofNat_of_zero_le h0
    have hw : wordL b (n + 1) (j : Int) st = (match (if j < b.size then (if letterB (bAt b j) || digitB (bAt b j) then wordEnd b n (j + 1) else some j) else some j) with
      | none => none
      | some j => wordT b (j : Int) st) := by simp only [wordL, Int.toNat_natCast, if_pos h0, wordEnd]
    refine s_b (k_len (by repeat (first | exact mz | apply ms)) fun hl => ?_)
    have next : ∀ {Δ : Labels Empty SSt Tok}, (if letterB (bAt b j) || digitB (bAt b j) then wordEnd b n (j + 1) else some j) = wordEnd b n (j + 1) → j < b.size → wordL b (n + 1) (j : Int) st = wordL b n (IntKind.i64.wrap ((j : Int) + 1)) st := fun {_} h1 h2 => by
      rw [hw, if_pos h2, h1, wrap_id (by omega) (by omega)]
      simp only [wordL]
      rw [if_pos (by omega), show ((j : Int) + 1).toNat = j + 1 by omega]
    refine k_ite (fun h => ?_) (fun h => ?_)
    · have hj : j < b.size := by have := of_decide_eq_true h; rw [hl] at this; exact Int.ofNat_lt.1 this
      refine s_b (k_byte j (by repeat (first | exact mz | apply ms)) rfl hj ?_)
      refine k_val (letter_m _) (fun _ h => nomatch h) (k_ite (fun h1 => ?_) (fun h1 => ?_))
      · exact k_outR (IntKind.i64.wrap ((j : Int) + 1), ()) lbR0 rfl (next (Δ := noLabel) (by rw [h1]; rfl) hj)
      · refine s_b (k_byte j (by repeat (first | exact mz | apply ms)) rfl hj ?_)
        refine k_val (digit_m _) (fun _ h => nomatch h) (k_ite (fun h2 => ?_) (fun h2 => ?_))
        · exact k_outR (IntKind.i64.wrap ((j : Int) + 1), ()) lbR0 rfl (next (Δ := noLabel) (by rw [h2, Bool.or_true]; rfl) hj)
        · exact k_outV (s' := fun x : HC [.b (.int .i64)] => wordT b x.1) ((j : Int), ()) (lbR1 (by decide) lbR0) rfl (by show wordL b (n + 1) (j : Int) st = _; rw [hw, if_pos hj, h1, h2]; rfl)
    · have hj : ¬ j < b.size := by have := of_decide_eq_false h; rw [hl] at this; exact fun h' => this (Int.ofNat_lt.2 h')
      exact k_outV (s' := fun x : HC [.b (.int .i64)] => wordT b x.1) ((j : Int), ()) (lbR1 (by decide) lbR0) rfl (by show wordL b (n + 1) (j : Int) st = _; rw [hw, if_neg hj])
  · obtain ⟨y, ⟨⟩⟩ := y
    by_cases h0 : 0 ≤ y ∧ (st.pos : Int) < y ∧ y ≤ b.size
    case neg => exact k_none (by show wordT b y st = none; simp only [wordT]; rw [if_neg h0])
    obtain ⟨j, rfl⟩ := Int.eq_ofNat_of_zero_le h0.1
    have hj : st.pos < j ∧ j ≤ b.size := ⟨Int.ofNat_lt.1 h0.2.1, Int.ofNat_le.1 h0.2.2⟩
    have hT : wordT b (j : Int) st = some (.ok (cutT b (if resB (b.extract st.pos j) then 2 else 1) st.pos j) st) := wordT_pos hj
    refine k_call (cut_m hb 1 j) (by simp) (fun h => by simp only [cutS] at h; rw [if_pos hj] at h; cases h) (fun e => e.elim) fun x t st' h => ?_
    simp only [cutS] at h; rw [if_pos hj] at h
    simp only [Option.some.injEq, Res.ok.injEq] at h
    obtain ⟨rfl, rfl⟩ := h
    refine k_fact fun F hx => ?_
    obtain rfl : x = cutT b 1 st.pos j := hx
    refine k_varT _ fun b2 => ?_
    refine k_ldO (b1 := .str) (b.extract st.pos j) (List.mem_cons_self ..) (by kernel_rfl) rfl rfl ?_
    refine k_val (reserved_m _ (by simp; omega)) (by simp) (k_ite (fun h => ?_) (fun h => ?_))
    · refine k_loc (loc_st (L1 := []) (L2 := [(b1, blk T_api_Token (encTok noTok))]) (l := encTok (cutT b 1 st.pos j)) (T := T_int) (T0 := T_api_Token) (c := false) rfl (by kernel_rfl) rfl (Nat.le_of_ble_eq_true rfl) (by simp [Value.cells, Value.oneCell'])) ?_
      rintro _ _ _ ⟨rfl, rfl⟩
      refine k_ldT (cutT b 2 st.pos j) (List.mem_cons_self ..) ?_
      exact k_retT (L1 := [_]) (L2 := []) (cutT b 2 st.pos j) rfl rfl (by show wordT b (j : Int) st = _; rw [hT, if_pos h])
    · refine k_ldT (cutT b 1 st.pos j) (List.mem_cons_self ..) ?_
      exact k_retT (L1 := [_]) (L2 := []) (cutT b 1 st.pos j) rfl rfl (by show wordT b (j : Int) st = _; rw [hT, if_neg (by simp [h])])
end
end Go.Proofs.YtjlgcpgjdgeejaaGreatDoor
end

/- The scanner's functions: number, blanks. Conditions: none. -/
section
namespace Go.Proofs.YtjlgcpgjdgeejaaGreatDoor
open Go
set_option linter.unusedSimpArgs false
set_option linter.unusedVariables false
set_option linter.constructorNameAsVariable false
set_option maxRecDepth 100000

section
variable {b : ByteArray} {sl : SlD} {pb : Nat}
theorem wrap8_id {n : Int} (h0 : 0 ≤ n) (h1 : n ≤ 255) : IntKind.u8.wrap n = n := IntWalk.u8_in _ ⟨h0, h1⟩
def numberS (b : ByteArray) : Sp Empty SSt Tok := fun st => (numberV b st.pos).map fun t => .ok t st
def numX (b : ByteArray) (j : Int) (c : Bool) : Sp Empty SSt Tok := fun st => if 0 ≤ j ∧ (st.pos : Int) < j ∧ j ≤ b.size then some (.ok (if c then noTok else cutT b 3 st.pos j.toNat) st) else none
def numT (b : ByteArray) (j v : Int) : Sp Empty SSt Tok := fun st => numX b j (numC b st.pos j.toNat v) st
def numL (b : ByteArray) (n : Nat) (j v : Int) : Sp Empty SSt Tok := fun st => if 0 ≤ j then (match numEnd b n j.toNat v with
  | none => none
  | some (i, v) => numT b (i : Int) v st) else none
theorem numX_pos {j : Nat} {c : Bool} {st : SSt} (h : st.pos < j ∧ j ≤ b.size) : numX b (j : Int) c st = some (.ok (if c then noTok else cutT b 3 st.pos j) st) := by
  simp only [numX, Int.toNat_natCast]
  rw [if_pos (show (0 : Int) ≤ (j : Int) ∧ (st.pos : Int) < (j : Int) ∧ (j : Int) ≤ (b.size : Int) by omega)]
theorem numX_neg {j : Nat} {c : Bool} {st : SSt} (h : ¬ (st.pos < j ∧ j ≤ b.size)) : numX b (j : Int) c st = none := by
  simp only [numX]
  rw [if_neg (show ¬ ((0 : Int) ≤ (j : Int) ∧ (st.pos : Int) < (j : Int) ∧ (j : Int) ≤ (b.size : Int)) by omega)]
theorem number_mS (hb : b.size ≤ 65536) : Meets PG (SI b sl pb) (callS F_Scanner_number #[.pointer (some ⟨pb, 0, none⟩)]) tTok (numberS b) RelEq [ByF sl b, MxF] := by
  refine c_Scanner_number ⟨pb, 0, none⟩ (k_open fun st => ?_)
  unfold t_Scanner_number
  refine k_varT0 fun b1 => s_pos ?_
  refine k_join (fun x => numT b x.1 x.2.1) (k_loop (fun n x => numL b n x.1 x.2.1) (b.size + 1) ((st.pos : Int), (0 : Int), ()) rfl ?_ (fun y st => ?_) fun n y st => ?_) fun y st => ?_
  · show numberS b st = numL b (b.size + 1) (st.pos : Int) 0 st
    simp only [numL, numberS, numberV, numT, Int.toNat_natCast]
    rw [if_pos (by omega)]
    cases numEnd b (b.size + 1) st.pos 0 with
    | none => rfl
    | some j =>
      obtain ⟨j, v⟩ := j
      by_cases h : st.pos < j ∧ j ≤ b.size
      · simp only [numX_pos h]; rw [if_pos h]; rfl
      · simp only [numX_neg h]; rw [if_neg h]; rfl
  · simp [numL, numEnd]
  · obtain ⟨(y : Int), (v : Int), ⟨⟩⟩ := y
    have hdef : numL b (n + 1) y v st = if 0 ≤ y then (match numEnd b (n + 1) y.toNat v with
      | none => none
      | some (i, v) => numT b (i : Int) v st) else none := rfl
    by_cases h0 : 0 ≤ y
    case neg => exact k_none (by show numL b (n + 1) y v st = none; rw [hdef, if_neg h0])
    obtain ⟨j, rfl⟩ := Int.eq_ofNat_of_zero_le h0
    rw [if_pos h0] at hdef
    simp only [numEnd, Int.toNat_natCast] at hdef
    by_cases hv : 0 ≤ v ∧ v ≤ 9007199254740992
    case neg => exact k_none (by show numL b (n + 1) (j : Int) v st = none; rw [hdef, if_neg hv])
    rw [if_pos hv] at hdef
    have hdef : ∀ st, numL b (n + 1) (j : Int) v st = (match (if j < b.size ∧ digitB (bAt b j) = true then numEnd b n (j + 1) (if 9007199254740992 < v * 10 + (bAt b j - 48) then 9007199254740992 else v * 10 + (bAt b j - 48)) else some (j, v)) with
      | none => none
      | some (i, v) => numT b (i : Int) v st) := fun st => by simp only [numL, numEnd, Int.toNat_natCast]; rw [if_pos h0, if_pos hv]
    refine k_join (fun x st => if x.1 = true then (if j < b.size ∧ digitB (bAt b j) = true then numL b (n + 1) (j : Int) v st else none) else if j < b.size ∧ digitB (bAt b j) = true then none else numT b (j : Int) v st) ?_ fun y2 st2 => ?_
    · refine s_b (k_len (by repeat (first | exact mz | apply ms)) fun hl => k_ite (fun h => ?_) (fun h => ?_))
      · have hj : j < b.size := by have := of_decide_eq_true h; rw [hl] at this; exact Int.ofNat_lt.1 this
        refine s_b (k_byte j (by repeat (first | exact mz | apply ms)) rfl hj ?_)
        refine k_val (digit_m _) (fun _ h => nomatch h) ?_
        refine k_outV (ts := [.b .bool]) (digitB (bAt b j), ()) lbR0 rfl ?_
        show numL b (n + 1) (j : Int) v st = _
        cases hd : digitB (bAt b j) with
        | true => simp [hj]
        | false => rw [hdef]; simp [hd]
      · have hj : ¬ j < b.size := by have := of_decide_eq_false h; rw [hl] at this; exact fun h' => this (Int.ofNat_lt.2 h')
        refine k_outV (ts := [.b .bool]) (false, ()) lbR0 rfl ?_
        show numL b (n + 1) (j : Int) v st = _
        rw [hdef]; simp [hj]
    · obtain ⟨c, ⟨⟩⟩ := y2
      refine k_ite (fun h => ?_) (fun h => ?_)
      · obtain rfl : c = true := h
        by_cases hd : j < b.size ∧ digitB (bAt b j) = true
        case neg => exact k_none (by show (if true = true then (if j < b.size ∧ digitB (bAt b j) = true then numL b (n + 1) (j : Int) v st2 else none) else _) = none; rw [if_pos rfl, if_neg hd])
        refine s_b (k_byte j (by repeat (first | exact mz | apply ms)) rfl hd.1 ?_)
        have hc := hd.2
        simp only [digitB, Bool.and_eq_true, decide_eq_true_eq] at hc
        refine k_outR (ts := [.b (.int .i64), .b (.int .i64)]) (((j + 1 : Nat) : Int), (if 9007199254740992 < v * 10 + (bAt b j - 48) then 9007199254740992 else v * 10 + (bAt b j - 48) : Int), ()) lbR0 ?_ ?_
        · rw [wrap8_id (n := bAt b j - 48) (by omega) (by omega), wrap_id (n := bAt b j - 48) (by omega) (by omega), wrap_id (n := v * 10) (by omega) (by omega), wrap_id (by omega) (by omega), wrap_id (by omega) (by omega)]
          rfl
        · show (if true = true then (if j < b.size ∧ digitB (bAt b j) = true then numL b (n + 1) (j : Int) v st2 else none) else _) = numL b n ((j + 1 : Nat) : Int) _ st2
          rw [if_pos rfl, if_pos hd, hdef, if_pos hd]
          simp only [numL, Int.toNat_natCast]
          rw [if_pos (show (0 : Int) ≤ ((j + 1 : Nat) : Int) by omega)]
      · obtain rfl : c = false := h
        by_cases hd : j < b.size ∧ digitB (bAt b j) = true
        · exact k_none (by show (if false = true then _ else (if j < b.size ∧ digitB (bAt b j) = true then none else numT b (j : Int) v st2)) = none; rw [if_neg (by decide), if_pos hd])
        · refine k_outV (s' := fun x : HC [.b (.int .i64), .b (.int .i64)] => numT b x.1 x.2.1) ((j : Int), v, ()) (lbR1 (by decide) lbR0) rfl ?_
          show (if false = true then _ else (if j < b.size ∧ digitB (bAt b j) = true then none else numT b (j : Int) v st2)) = numT b (j : Int) v st2
          rw [if_neg (by decide), if_neg hd]
  · obtain ⟨(y : Int), (v : Int), ⟨⟩⟩ := y
    show SimK _ _ _ _ _ _ _ _ (numT b y v st) _ _
    by_cases h0 : 0 ≤ y ∧ (st.pos : Int) < y ∧ y ≤ b.size
    case neg => exact k_none (by simp only [numT, numX]; rw [if_neg h0])
    obtain ⟨j, rfl⟩ := Int.eq_ofNat_of_zero_le h0.1
    have hj : st.pos < j ∧ j ≤ b.size := ⟨Int.ofNat_lt.1 h0.2.1, Int.ofNat_le.1 h0.2.2⟩
    refine k_join (fun x => numX b (j : Int) x.1) ?_ fun y2 st2 => ?_
    · refine k_ite (fun h => ?_) (fun h => ?_)
      · refine k_outV (s' := fun x : HC [.b .bool] => numX b (j : Int) x.1) (true, ()) lbR0 rfl ?_
        show numX b (j : Int) (numC b st.pos j v) st = _
        have : decide (v > 9007199254740991) = true := h
        simp only [numC, this, Bool.true_or]
      · have hv : decide (v > 9007199254740991) = false := h
        refine k_join (fun x st => numX b (j : Int) (x.1 || (decide (j < b.size) && letterB (bAt b j))) st) ?_ fun y3 st3 => ?_
        · refine k_draw [] (fun _ h => nomatch h) (s_bq (s_posq ?_))
          refine k_byteq st.pos (by repeat (first | exact mz | apply ms)) (by repeat (first | exact mz | apply ms)) rfl (by omega) ?_
          refine k_ite (fun h2 => ?_) (fun h2 => ?_)
          · refine s_posq (k_outV (s' := fun (x : HC [.b .bool]) st => numX b (j : Int) (x.1 || (decide (j < b.size) && letterB (bAt b j))) st) (decide (j > st.pos + 1), ()) lbR0 ?_ ?_)
            · rw [wrap_id (by omega) (by omega)]
              show [Value.bool (decide ((j : Int) > (st.pos : Int) + 1))] = [Value.bool (decide (j > st.pos + 1))]
              congr 2
              exact decide_eq_decide.2 (by omega)
            · show numX b (j : Int) (numC b st.pos j v) st = _
              simp only [numC, hv, h2, Bool.false_or, Bool.true_and]
          · refine k_outV (s' := fun (x : HC [.b .bool]) st => numX b (j : Int) (x.1 || (decide (j < b.size) && letterB (bAt b j))) st) (false, ()) lbR0 rfl ?_
            show numX b (j : Int) (numC b st.pos j v) st = _
            simp only [numC, hv, h2, Bool.false_or, Bool.false_and]
        · obtain ⟨c, ⟨⟩⟩ := y3
          refine k_ite (fun h => ?_) (fun h => ?_)
          · obtain rfl : c = true := h
            exact k_outV (s' := fun x : HC [.b .bool] => numX b (j : Int) x.1) (true, ()) lbR0 rfl (by simp only [Bool.true_or])
          · obtain rfl : c = false := h
            refine s_b (k_len (by repeat (first | exact mz | apply ms)) fun hl => k_ite (fun h => ?_) (fun h => ?_))
            · have hj2 : j < b.size := by have := of_decide_eq_true h; rw [hl] at this; exact Int.ofNat_lt.1 this
              refine s_b (k_byte j (by repeat (first | exact mz | apply ms)) rfl hj2 ?_)
              refine k_val (letter_m _) (fun _ h => nomatch h) ?_
              exact k_outV (s' := fun x : HC [.b .bool] => numX b (j : Int) x.1) (letterB (bAt b j), ()) lbR0 rfl (by simp only [Bool.false_or, hj2, decide_true, Bool.true_and])
            · have hj2 : ¬ j < b.size := by have := of_decide_eq_false h; rw [hl] at this; exact fun h' => this (Int.ofNat_lt.2 h')
              exact k_outV (s' := fun x : HC [.b .bool] => numX b (j : Int) x.1) (false, ()) lbR0 rfl (by simp only [Bool.false_or, hj2, decide_false, Bool.false_and])
    · obtain ⟨c, ⟨⟩⟩ := y2
      show SimK _ _ _ _ _ _ _ _ (numX b (j : Int) c st2) _ _
      by_cases hj : st2.pos < j ∧ j ≤ b.size
      case neg => exact k_none (numX_neg hj)
      rw [numX_pos hj]
      refine k_ite (fun h => ?_) (fun h => ?_)
      · obtain rfl : c = true := h
        exact k_retT (L1 := []) (L2 := []) noTok rfl rfl rfl
      · obtain rfl : c = false := h
        refine k_call (cut_m hb 3 j) (by simp) (fun h => by simp only [cutS] at h; rw [if_pos hj] at h; cases h) (fun e => e.elim) fun x t st' h => ?_
        simp only [cutS] at h; rw [if_pos hj] at h
        simp only [Option.some.injEq, Res.ok.injEq] at h
        obtain ⟨rfl, rfl⟩ := h
        refine k_fact fun F hx => ?_
        obtain rfl : x = cutT b 3 st2.pos j := hx
        exact k_retT (L1 := []) (L2 := []) (cutT b 3 st2.pos j) rfl rfl rfl
end
end Go.Proofs.YtjlgcpgjdgeejaaGreatDoor
end

/- The scanner's functions: blanks, sign. Conditions: none. -/
section
namespace Go.Proofs.YtjlgcpgjdgeejaaGreatDoor
open Go
set_option linter.unusedSimpArgs false
set_option linter.unusedVariables false
set_option linter.constructorNameAsVariable false
set_option maxRecDepth 100000

section
variable {b : ByteArray} {sl : SlD} {pb : Nat}
def blanksL (b : ByteArray) (n : Nat) : Sp Empty SSt Bool := fun st => (blanksV b n st.pos).map fun x => .ok x.2 { st with pos := x.1 }
def lineL (b : ByteArray) (n m : Nat) : Sp Empty SSt Bool := fun st => match lineEnd b m st.pos with
  | none => none
  | some j => blanksL b n { st with pos := j }
theorem lt_of_dec {i n : Nat} {m : Nat} (hm : m = n) (h : decide ((i : Int) < (m : Int)) = true) : i < n := by have := of_decide_eq_true h; omega
theorem ge_of_dec {i n : Nat} {m : Nat} (hm : m = n) (h : decide ((i : Int) < (m : Int)) = false) : ¬ i < n := by have := of_decide_eq_false h; omega
theorem blanks_m (hb : b.size ≤ 65536) : Meets PG (SI b sl pb) (callS F_Scanner_blanks #[.pointer (some ⟨pb, 0, none⟩)]) tB (blanksL b (b.size + 1)) RelEq [ByF sl b, MxF] := by
  refine c_Scanner_blanks ⟨pb, 0, none⟩ (k_open fun st => ?_)
  unfold t_Scanner_blanks
  refine k_loop (fun n _ => blanksL b n) (b.size + 1) () rfl rfl (fun y st => rfl) fun n y st => ?_
  show SimK _ _ _ _ _ _ _ _ (blanksL b (n + 1) st) _ _
  refine k_draw [] (fun _ h => nomatch h) (s_posq (s_bq (s_le fun hle => k_len (by repeat (first | exact mz | apply ms)) fun hl => k_ite (fun h => ?_) (fun h => ?_))))
  · have hj : st.pos < b.size := lt_of_dec hl h
    have hdef : blanksV b (n + 1) st.pos = (if decide (ixB k_sp_tab_nl_cr (bAt b st.pos) ≥ 0) then blanksV b n (st.pos + 1)
      else if hasB b st.pos k_sl_sl then (match lineEnd b (b.size + 1) st.pos with
        | none => none
        | some j => blanksV b n j)
      else if hasB b st.pos k_sl_star then
        if decide (ixS (b.extract (st.pos + 2) b.size) k_star_sl < 0) then some (st.pos, false)
        else if st.pos + (ixS (b.extract (st.pos + 2) b.size) k_star_sl + 4).toNat ≤ b.size then blanksV b n (st.pos + (ixS (b.extract (st.pos + 2) b.size) k_star_sl + 4).toNat) else none
      else some (st.pos, true)) := by rw [blanksV, if_pos hj]; rfl
    refine k_draw [] (fun _ h => nomatch h) (s_bq (s_posq ?_))
    refine k_byteq st.pos (by repeat (first | exact mz | apply ms)) (by repeat (first | exact mz | apply ms)) rfl hj ?_
    refine k_vall (indexByte_m _ _) (fun _ h => nomatch h) (fun _ h => nomatch h) (k_ite (fun h1 => ?_) (fun h1 => ?_))
    · refine s_pos (s_set (st.pos + 1) (by rw [wrap_id (by omega) (by omega)]; simp) (by omega) ?_)
      refine k_outR (sp := fun n (_ : HC []) => blanksL b n) () lbR0 rfl ?_
      simp only [blanksL, hdef, h1, if_pos]
    · refine s_pos ?_
      refine k_call (has_m hb st.pos (by omega) k_sl_sl (by decide)) (by simp) (fun h => by cases h) (fun e => e.elim) fun x c st' h => ?_
      simp only [hasS, Option.some.injEq, Res.ok.injEq] at h
      obtain ⟨rfl, rfl⟩ := h
      refine k_fact fun F hx => ?_
      obtain rfl : x = hasB b st.pos k_sl_sl := hx
      refine k_ite (fun h2 => ?_) (fun h2 => ?_)
      · refine k_loop (fun m _ => lineL b n m) (b.size + 1) () rfl ?_ (fun y st => rfl) fun m y st => ?_
        · simp only [blanksL, lineL, hdef, h1, h2, if_pos]
          rw [if_neg (by decide)]
          cases lineEnd b (b.size + 1) st.pos <;> rfl
        · show SimK _ _ _ _ _ _ _ _ (lineL b n (m + 1) st) _ _
          have hd : ∀ st, lineL b n (m + 1) st = (match (if st.pos < b.size then (if bAt b st.pos != 10 then lineEnd b m (st.pos + 1) else some st.pos) else some st.pos) with
            | none => none
            | some j => blanksL b n { st with pos := j }) := fun st => rfl
          refine k_join (fun x st => if x.1 = true then (if st.pos < b.size then lineL b n m { st with pos := st.pos + 1 } else none) else blanksL b n st) ?_ fun y2 st2 => ?_
          · refine k_draw [] (fun _ h => nomatch h) (s_posq (s_bq (k_len (by repeat (first | exact mz | apply ms)) fun hl => k_ite (fun h => ?_) (fun h => ?_))))
            · have hj : st.pos < b.size := lt_of_dec hl h
              refine s_bq (s_posq ?_)
              refine k_byteq st.pos (by repeat (first | exact mz | apply ms)) (by repeat (first | exact mz | apply ms)) rfl hj ?_
              refine k_outV (s' := fun (x : HC [.b .bool]) st => if x.1 = true then (if st.pos < b.size then lineL b n m { st with pos := st.pos + 1 } else none) else blanksL b n st) ((bAt b st.pos != 10 : Bool), ()) lbR0 rfl ?_
              rw [hd, if_pos hj]
              cases hc : (bAt b st.pos != 10) with
              | true => simp only [if_pos, hj]; rfl
              | false => rfl
            · have hj : ¬ st.pos < b.size := ge_of_dec hl h
              refine k_outV (s' := fun (x : HC [.b .bool]) st => if x.1 = true then (if st.pos < b.size then lineL b n m { st with pos := st.pos + 1 } else none) else blanksL b n st) (false, ()) lbR0 rfl ?_
              rw [hd, if_neg hj]; rfl
          · obtain ⟨c, ⟨⟩⟩ := y2
            refine k_ite (fun h => ?_) (fun h => ?_)
            · obtain rfl : c = true := h
              by_cases hj : st2.pos < b.size
              case neg => exact k_none (by show (if true = true then (if st2.pos < b.size then _ else none) else _) = none; rw [if_pos rfl, if_neg hj])
              refine s_pos (s_set (st2.pos + 1) (by rw [wrap_id (by omega) (by omega)]; simp) (by omega) ?_)
              refine k_outR (sp := fun m (_ : HC []) => lineL b n m) () lbR0 rfl ?_
              show (if true = true then (if st2.pos < b.size then _ else none) else _) = _
              rw [if_pos rfl, if_pos hj]
            · obtain rfl : c = false := h
              exact k_outR (sp := fun n (_ : HC []) => blanksL b n) () (lbR1 (by decide) lbR0) rfl rfl
      · refine s_pos ?_
        refine k_call (has_m hb st.pos (by omega) k_sl_star (by decide)) (by simp) (fun h => by cases h) (fun e => e.elim) fun x c st' h => ?_
        simp only [hasS, Option.some.injEq, Res.ok.injEq] at h
        obtain ⟨rfl, rfl⟩ := h
        refine k_fact fun F hx => ?_
        obtain rfl : x = hasB b st.pos k_sl_star := hx
        have h1' : decide (ixB k_sp_tab_nl_cr (bAt b st.pos) ≥ 0) = false := h1
        refine k_ite (fun h3 => ?_) (fun h3 => ?_)
        · have h3' := h3
          simp only [hasB, Bool.and_eq_true, decide_eq_true_eq, show k_sl_star.size = 2 from rfl] at h3'
          have hle2 := h3'.1
          rw [h1', h2, h3, if_neg (by decide), if_neg (by decide), if_pos rfl] at hdef
          refine k_draw [] (fun _ h => nomatch h) (s_bq (s_posq ?_))
          rw [wrap_id (by omega) (by omega)]
          refine k_pvq (t1 := tSl) (subD sl (st.pos + 2) b.size) (pv_subL (by repeat (first | exact mz | apply ms)) (st.pos + 2) (by simp) hle2) ?_
          refine k_pvq (t1 := tS) (b.extract (st.pos + 2) b.size) (pv_str (by repeat (first | exact mz | apply ms)) _ _ hle2 (Nat.le_refl _) (by omega)) ?_
          refine k_vall (index_m _ _ (by simp; omega)) (by simp) (fun _ h => nomatch h) (k_ite (fun h4 => ?_) (fun h4 => ?_))
          · rw [if_pos h4] at hdef
            exact k_ret1 (t := tB) _ rfl (by simp only [blanksL, hdef]; rfl)
          · have h4' : ¬ ixS (b.extract (st.pos + 2) b.size) k_star_sl < (0 : Int) := of_decide_eq_false h4
            rw [if_neg (by rw [h4]; decide)] at hdef
            by_cases h5 : st.pos + (ixS (b.extract (st.pos + 2) b.size) k_star_sl + 4).toNat ≤ b.size
            case neg => exact k_none (by simp only [blanksL, hdef, if_neg h5]; rfl)
            rw [if_pos h5] at hdef
            refine s_pos (s_set (st.pos + (ixS (b.extract (st.pos + 2) b.size) k_star_sl + 4).toNat) ?_ h5 ?_)
            · rw [wrap_id (n := ixS (b.extract (st.pos + 2) b.size) k_star_sl + 4) (by omega) (by omega), wrap_id (by omega) (by omega)]
              omega
            · refine k_outR (sp := fun n (_ : HC []) => blanksL b n) () lbR0 rfl ?_
              simp only [blanksL, hdef]
        · rw [h1', h2, h3, if_neg (by decide), if_neg (by decide), if_neg (by decide)] at hdef
          exact k_ret1 (t := tB) _ rfl (by simp only [blanksL, hdef]; rfl)
  · have hj : ¬ st.pos < b.size := ge_of_dec hl h
    exact k_ret1 (t := tB) _ rfl (by simp only [blanksL, blanksV, if_neg hj]; rfl)
def signS (b : ByteArray) : Sp Empty SSt Tok := fun st => okS (signW b st)
def signR (st : SSt) : Option (Option Tok) → Option (Res Empty SSt Tok)
  | none => none
  | some none => some (.ok noTok st)
  | some (some t) => (signO t.text st.opn).map fun o => .ok t { st with opn := o }
def signL (b : ByteArray) (f : Nat) (k : Int) : Sp Empty SSt Tok := fun st => if 0 ≤ k then signR st (signV b st.pos f k.toNat) else none
theorem pv_signs {Γ : List Fact} {k : Nat} (hk : k < 3) : PVal PG Γ (idxS T_A3string (.agg #[.string kLong79, .string kLong80, .string kLong81]) (.int .i64 (k : Int))) (.string (signsOf k)) := PVal.pure fun w => by
  have hu : PG.underlying T_A3string = some (.array 3 T_string) := by kernel_rfl
  have hs : shapeOf PG T_string = some (false, 1) := by kernel_rfl
  have h3 : k = 0 ∨ k = 1 ∨ k = 2 := by omega
  rcases h3 with rfl | rfl | rfl <;> simp [idxS, valS, Instr.index, asIntOf, run_underlying hu, (run_isAgg hs).1, (run_isAgg hs).2, signsOf, part]
theorem signs_size (k : Nat) : (signsOf k).size < 4294967281 := by
  unfold signsOf
  split <;> decide
theorem sign_m (hb : b.size ≤ 65536) : Meets PG (SI b sl pb) (callS F_Scanner_sign #[.pointer (some ⟨pb, 0, none⟩)]) tTok (signS b) RelEq [ByF sl b, MxF] := by
  refine c_Scanner_sign ⟨pb, 0, none⟩ (k_open fun st => ?_)
  unfold t_Scanner_sign
  refine k_varT0 fun b1 => ?_
  refine k_loc (loc_alloc (z := [.string kE, .string kE, .string kE]) (by kernel_rfl)) ?_
  rintro _ _ _ ⟨b2, rfl, rfl, rfl⟩
  refine k_loc (loc_st (L1 := []) (L2 := [(b1, blk T_api_Token (encTok noTok))]) (l := [.string kE, .string kE, .string kE]) (T := T_A3string) (T0 := T_A3string) (c := true) rfl (by kernel_rfl) rfl (Nat.le_of_ble_eq_true rfl) (by simp [Value.cells, Value.oneCell'])) ?_
  rintro _ _ _ ⟨rfl, rfl⟩
  refine k_loc (loc_ldA (bs := [.str, .str, .str]) (l := [.string kLong79, .string kLong80, .string kLong81]) (T0 := T_A3string) (kLong79, kLong80, kLong81, ()) (Rd.own (List.mem_cons_self ..)) (by kernel_rfl) rfl rfl) ?_
  rintro _ _ _ ⟨rfl, rfl, rfl⟩
  refine k_drop (L' := [(b1, blk T_api_Token (encTok noTok))]) (List.sublist_cons_self ..) ?_
  refine k_join (fun _ st => some (.ok noTok st)) (k_loop (fun f x => signL b f x.1) 4 ((0 : Int), ()) rfl ?_ (fun y st => ?_) fun f y st => ?_) fun y st => ?_
  · show signS b st = signL b 4 0 st
    simp only [signL, signS, signW, okS]
    rw [if_pos (by decide)]
    show Option.map _ (match signV b st.pos 4 0 with | none => none | some none => some (noTok, st) | some (some t) => Option.map (fun o => (t, { st with opn := o })) (signO t.text st.opn)) = signR st (signV b st.pos 4 0)
    cases signV b st.pos 4 0 with
    | none => rfl
    | some x =>
      cases x with
      | none => rfl
      | some t => simp only [signR, Option.map_map]; rfl
  · show signL b 0 y.1 st = none
    simp [signL, signV, signR]
  · obtain ⟨(k : Int), ⟨⟩⟩ := y
    show SimK _ _ _ _ _ _ _ _ (signL b (f + 1) k st) _ _
    by_cases h0 : 0 ≤ k
    case neg => exact k_none (by simp only [signL]; rw [if_neg h0])
    obtain ⟨k, rfl⟩ := Int.eq_ofNat_of_zero_le h0
    have hdef : signL b (f + 1) (k : Int) st = signR st (signV b st.pos (f + 1) k) := by simp only [signL, Int.toNat_natCast]; rw [if_pos h0]
    refine k_ite (fun h => ?_) (fun h => ?_)
    · have hk : k < 3 := by have : (k : Int) < 3 := of_decide_eq_true h; omega
      have hnext : ∀ st : SSt, signL b f (IntKind.i64.wrap ((k : Int) + 1)) st = signR st (signV b st.pos f (k + 1)) := fun st => by
        rw [wrap_id (by omega) (by omega)]
        simp only [signL]
        rw [if_pos (by omega), show ((k : Int) + 1).toNat = k + 1 by omega]
      simp only [signV, if_pos hk] at hdef
      refine k_pv (t1 := tS) (signsOf k) (pv_signs hk) ?_
      refine k_draw [] (fun _ h => nomatch h) (s_bq (s_posq (s_le fun hle => k_len (by repeat (first | exact mz | apply ms)) fun hl => ?_)))
      rw [hl, wrap_id (n := (b.size : Int) - (st.pos : Int)) (by omega) (by omega), wrap_id (n := 3 - (k : Int)) (by omega) (by omega)]
      refine k_ite (fun h1 => ?_) (fun h1 => ?_)
      · rw [if_pos h1] at hdef
        exact k_outR (sp := fun f (x : HC [.b (.int .i64)]) => signL b f x.1) (IntKind.i64.wrap ((k : Int) + 1), ()) lbR0 rfl (by rw [hdef, hnext])
      · rw [if_neg (by rw [h1]; decide)] at hdef
        have h1' : ¬ (b.size : Int) - st.pos < 3 - (k : Int) := of_decide_eq_false h1
        have hn : st.pos < st.pos + (3 - k) ∧ st.pos + (3 - k) ≤ b.size := by omega
        cases ha : asciiB (b.extract st.pos (st.pos + (3 - k))) with
        | false => rw [ha, if_neg (by decide)] at hdef; exact k_none hdef
        | true =>
        rw [ha, if_pos rfl] at hdef
        refine s_pos ?_
        rw [wrap_id (by omega) (by omega), show (st.pos : Int) + (3 - (k : Int)) = ((st.pos + (3 - k) : Nat) : Int) by omega]
        refine k_call (cut_m hb 9 (st.pos + (3 - k))) (by simp) (fun h => by simp only [cutS] at h; rw [if_pos hn] at h; cases h) (fun e => e.elim) fun x t st' h => ?_
        simp only [cutS] at h; rw [if_pos hn] at h
        simp only [Option.some.injEq, Res.ok.injEq] at h
        obtain ⟨rfl, rfl⟩ := h
        refine k_fact fun F hx => ?_
        obtain rfl : x = cutT b 9 st.pos (st.pos + (3 - k)) := hx
        refine k_varT _ fun b3 => ?_
        let X := b.extract st.pos (st.pos + (3 - k))
        have hX : X.size ≤ 3 := by show (b.extract st.pos (st.pos + (3 - k))).size ≤ 3; simp; omega
        refine k_join (fun x st' => if st' = st then (if x.1 = true then signR st (signV b st.pos f (k + 1)) else signR st (some (some (cutT b 9 st.pos (st.pos + (3 - k)))))) else none) ?_ fun y2 st2 => ?_
        · refine k_ldO (b1 := .str) X (List.mem_cons_self ..) (by kernel_rfl) rfl rfl ?_
          refine k_val (containsAny_m X k_sp_tab_cr_nl (by omega) (by decide) ha (by decide)) (by simp) (k_ite (fun h2 => ?_) (fun h2 => ?_))
          · refine k_outV (s' := fun (x : HC [.b .bool]) st' => if st' = st then (if x.1 = true then signR st (signV b st.pos f (k + 1)) else signR st (some (some (cutT b 9 st.pos (st.pos + (3 - k)))))) else none) (true, ()) lbR0 rfl ?_
            rw [if_pos rfl, if_pos rfl, hdef, if_pos h2]
          · rw [if_neg (by rw [show caS (b.extract st.pos (st.pos + (3 - k))) k_sp_tab_cr_nl = false from h2]; decide)] at hdef
            refine k_ldO (b1 := .str) X (List.mem_cons_self ..) (by kernel_rfl) rfl rfl ?_
            refine k_pv (t1 := tS) (k_sp ++ X) (PVal.pure fun w => run_cat _ _ (by have : k_sp.size = 1 := rfl; omega)) ?_
            refine k_pv (t1 := tS) (k_sp ++ X ++ k_sp) (PVal.pure fun w => run_cat _ _ (by have : k_sp.size = 1 := rfl; simp; omega)) ?_
            refine k_val (contains_m (signsOf k) (k_sp ++ X ++ k_sp) (signs_size k)) (by simp) ?_
            refine k_outV (s' := fun (x : HC [.b .bool]) st' => if st' = st then (if x.1 = true then signR st (signV b st.pos f (k + 1)) else signR st (some (some (cutT b 9 st.pos (st.pos + (3 - k)))))) else none) ((!ctS (signsOf k) (k_sp ++ X ++ k_sp) : Bool), ()) lbR0 rfl ?_
            rw [if_pos rfl, hdef]
            cases hc : ctS (signsOf k) (k_sp ++ X ++ k_sp) with
            | true => rw [if_neg (by decide)]; rfl
            | false => rw [if_pos (by decide)]; rfl
        · obtain ⟨c, ⟨⟩⟩ := y2
          by_cases hs2 : st2 = st
          case neg => exact k_none (if_neg hs2)
          subst hs2
          refine k_ite (fun h2 => ?_) (fun h2 => ?_)
          · obtain rfl : c = true := h2
            exact k_drop (List.sublist_cons_self ..) (k_outR (sp := fun f (x : HC [.b (.int .i64)]) => signL b f x.1) (IntKind.i64.wrap ((k : Int) + 1), ()) lbR0 rfl (by rw [if_pos rfl, if_pos rfl, hnext]))
          · obtain rfl : c = false := h2
            rw [if_pos rfl]
            show SimK _ _ _ _ _ _ _ _ ((signO X st2.opn).map fun o => .ok (cutT b 9 st2.pos (st2.pos + (3 - k))) { st2 with opn := o }) _ _
            refine k_ldO (b1 := .str) X (List.mem_cons_self ..) (by kernel_rfl) rfl rfl (k_ite (fun h3 => ?_) (fun h3 => ?_))
            · have h3' : (X.toList == k_lc.toList) = true := h3
              by_cases hlen : st2.opn.length < 1048576
              case neg => exact k_none (by simp only [signO]; rw [if_pos h3', if_neg hlen]; rfl)
              refine s_push hlen (k_ldT (cutT b 9 st2.pos (st2.pos + (3 - k))) (List.mem_cons_self ..) ?_)
              exact k_retT (L1 := [_]) (L2 := []) (cutT b 9 st2.pos (st2.pos + (3 - k))) rfl rfl (by simp only [signO]; rw [if_pos h3', if_pos hlen]; rfl)
            · have h3' : ¬ (X.toList == k_lc.toList) = true := by rw [show (X.toList == k_lc.toList) = false from h3]; decide
              refine k_ite (fun h4 => ?_) (fun h4 => ?_)
              · have h4' : (X.toList == k_rc.toList) = true := h4
                refine s_pop (f := fun n => if IntKind.i64.wrap (n - 1) > 0 then IntKind.i64.wrap (n - 1) else 0) (fun n hn => ?_) (k_ldT (cutT b 9 st2.pos (st2.pos + (3 - k))) (List.mem_cons_self ..) ?_)
                · rw [wrap_id (by omega) (by omega)]
                  split <;> omega
                · exact k_retT (L1 := [_]) (L2 := []) (cutT b 9 st2.pos (st2.pos + (3 - k))) rfl rfl (by simp only [signO]; rw [if_neg h3', if_pos h4']; rfl)
              · have h4' : ¬ (X.toList == k_rc.toList) = true := by rw [show (X.toList == k_rc.toList) = false from h4]; decide
                refine k_ldT (cutT b 9 st2.pos (st2.pos + (3 - k))) (List.mem_cons_self ..) ?_
                exact k_retT (L1 := [_]) (L2 := []) (cutT b 9 st2.pos (st2.pos + (3 - k))) rfl rfl (by simp only [signO]; rw [if_neg h3', if_neg h4']; rfl)
    · have hk : ¬ k < 3 := by have : ¬ (k : Int) < 3 := of_decide_eq_false h; omega
      simp only [signV, if_neg hk] at hdef
      exact k_outV (s' := fun (_ : HC []) st => some (.ok noTok st)) () (lbR1 (by decide) lbR0) rfl hdef
  · exact k_retT (L1 := []) (L2 := []) noTok rfl rfl rfl
end
end Go.Proofs.YtjlgcpgjdgeejaaGreatDoor
end

/- The trees of functions of the program, each with the proof that it is the tree of the translated code. Conditions: none. By program. -/
section
namespace Go.Proofs.YtjlgcpgjdgeejaaGreatDoor
open Go
set_option linter.unusedVariables false
set_option maxRecDepth 100000
noncomputable section
def an_Scanner_Next : An :=
  .s (.r [some tA, none]) (.s (.r [none, some tB, none]) (.s (.r [none, none, none, some tI, none, some tA, some tU]) (.s (.s (.r [none, none]) (.c (.s (.r [some (.c (.agg [.int .i64, .str, .int .i64, .int .i64])), some tU, none]) (.x)) (.x))) (.s (.s (.d (.q 0 none (.q 1 none (.q 2 none (.q 3 (some tI) (.q 4 none (.q 5 none (.q 6 none (.q 7 (some tSl) (.q 8 none (.q 9 none (.e)))))))))))) (.c (.s (.d (.q 0 none (.q 1 none (.q 2 none (.q 3 (some tI) (.q 4 none (.q 5 none (.q 6 none (.q 7 (some tI) (.q 8 none (.l 9 (some tU) (.q 10 none (.e))))))))))))) (.x)) (.x))) (.s (.s (.d (.q 0 none (.q 1 none (.q 2 none (.q 3 (some tSl) (.q 4 none (.q 5 none (.q 6 none (.q 7 (some tI) (.q 8 (some tA) (.q 9 (some tU8) (.q 10 none (.e))))))))))))) (.b (.s (.r [none, some tB, none]) (.j [] (.c (.r [none, some (.c (.agg [.int .i64, .str, .int .i64, .int .i64])), some tU]) (.s (.r [none, some tB, none]) (.c (.r [none, some (.c (.agg [.int .i64, .str, .int .i64, .int .i64])), some tU]) (.s (.j [(58, .b .bool)] (.r [none, none, none, none, none, none, none])) (.c (.r [none, none, some (.c (.agg [.int .i64, .str, .int .i64, .int .i64])), some tU]) (.s (.r [none, none, none]) (.c (.s (.r [none, some (.c (.agg [.int .i64, .str, .int .i64, .int .i64])), some tU]) (.s (.r [none, some tI, none]) (.c (.r [none, none, none, none, some tSl, some tSl, some tSl, none, none, some tU]) (.x)))) (.s (.j [(85, .b .bool)] (.d (.q 0 none (.q 1 none (.q 2 none (.q 3 none (.q 4 none (.q 5 none (.q 6 (some tSl) (.q 7 none (.q 8 none (.q 9 none (.q 10 none (.q 11 none (.q 12 none (.q 13 none (.q 14 (some tSl) (.q 15 none (.q 16 none (.q 17 none (.q 18 (some tSl) (.q 19 none (.q 20 none (.q 21 (some tA) (.q 22 (some tB) (.q 23 none (.q 24 none (.e)))))))))))))))))))))))))))) (.c (.s (.r [none, some (.c (.agg [.int .i64, .str, .int .i64, .int .i64])), some tU]) (.s (.r [none, some tI, none]) (.c (.d (.q 0 none (.q 1 none (.q 2 none (.q 3 none (.q 4 (some tSl) (.q 5 none (.q 6 none (.q 7 none (.q 8 (some tSl) (.q 9 none (.q 10 none (.q 11 (some tSl) (.q 12 none (.q 13 none (.l 14 (some tU) (.e))))))))))))))))) (.x)))) (.r [none, some (.c (.agg [.int .i64, .str, .int .i64, .int .i64])), some tU])))))))))))))) (.s (.s (.r [none, some tI, none]) (.c (.s (.r [none, none, none, some tI, none, some tU, none]) (.x)) (.x))) (.s (.r [none, none, some tI, none, none, some tU]) (.s (.r [some (.c (.agg [.int .i64, .str, .int .i64, .int .i64])), some tU, none]) (.x)))))))))
def t_Scanner_Next (a0_a0 : Addr) : T :=
 .op (allocS T_api_Token) tA fun r1 =>
 .op (callS F_Scanner_blanks #[.pointer (some a0_a0)]) tB fun r2 =>
 .op (ldS T_int (.pointer (some ⟨a0_a0.block, a0_a0.off + 1, none⟩))) tI fun r3 =>
 .op (allocS T_api_Token) tA fun r4 =>
 .op (stS T_api_Token (.pointer (some r4)) (.agg #[.int .i64 0, .string kE, .int .i64 r3, .int .i64 0])) tU fun _ =>
 .ite (!r2) (
 .op (ldS T_api_Token (.pointer (some r4))) (.c (.agg [.int .i64, .str, .int .i64, .int .i64])) fun r6 =>
 .op (stS T_api_Token (.pointer (some r1)) (.agg #[.int .i64 r6.1, .string r6.2.1, .int .i64 r6.2.2.1, .int .i64 r6.2.2.2.1])) tU fun _ =>
 .ret #[.c (.pointer (some r1)) T_api_Token, .v (.bool false)]) (
 .draw <|
 .opq (ldS T_int (.pointer (some ⟨a0_a0.block, a0_a0.off + 1, none⟩))) tI fun r8 =>
 .opq (ldS T_Suint8 (.pointer (some a0_a0))) tSl fun r9 =>
 .ite ((r8 : Int) == (r9.2.1 : Int)) (
 .draw <|
 .opq (ldS T_int (.pointer (some ⟨a0_a0.block, a0_a0.off + 1, none⟩))) tI fun r10 =>
 .opq (ldS T_int (.pointer (some ⟨a0_a0.block, a0_a0.off + 1, none⟩))) tI fun r11 =>
 .opl (stS T_api_Token (.pointer (some r1)) (.agg #[.int .i64 10, .string kE, .int .i64 r10, .int .i64 r11])) tU fun _ =>
 .ret #[.c (.pointer (some r1)) T_api_Token, .v (.bool true)]) (
 .draw <|
 .opq (ldS T_Suint8 (.pointer (some a0_a0))) tSl fun r13 =>
 .opq (ldS T_int (.pointer (some ⟨a0_a0.block, a0_a0.off + 1, none⟩))) tI fun r14 =>
 .opq (idxAS T_Suint8 (.slice r13.1 r13.2.1 r13.2.2) (.int .i64 r14)) tA fun r15 =>
 .opq (ldS T_uint8 (.pointer (some r15))) tU8 fun r16 =>
 .op (callS F_scan_Letter #[.int .u8 r16]) tB fun r17 =>
 .join 0 [] (
 .ite r17 (
 .op (callS F_Scanner_word #[.pointer (some a0_a0)]) (.c (.agg [.int .i64, .str, .int .i64, .int .i64])) fun r18 =>
 .op (stS T_api_Token (.pointer (some r4)) (.agg #[.int .i64 r18.1, .string r18.2.1, .int .i64 r18.2.2.1, .int .i64 r18.2.2.2.1])) tU fun _ =>
 .out 0 []) (
 .op (callS F_scan_Digit #[.int .u8 r16]) tB fun r20 =>
 .ite r20 (
 .op (callS F_Scanner_number #[.pointer (some a0_a0)]) (.c (.agg [.int .i64, .str, .int .i64, .int .i64])) fun r21 =>
 .op (stS T_api_Token (.pointer (some r4)) (.agg #[.int .i64 r21.1, .string r21.2.1, .int .i64 r21.2.2.1, .int .i64 r21.2.2.2.1])) tU fun _ =>
 .out 0 []) (
 .join 1 [.b .bool] (
 .ite ((r16 : Int) == 34) (
 .out 1 [.bool true]) (
 .out 1 [.bool ((r16 : Int) == 39)])) fun x23 =>
 .ite x23.1 (
 .op (callS F_Scanner_quoted #[.pointer (some a0_a0), .int .u8 r16]) (.c (.agg [.int .i64, .str, .int .i64, .int .i64])) fun r24 =>
 .op (stS T_api_Token (.pointer (some r4)) (.agg #[.int .i64 r24.1, .string r24.2.1, .int .i64 r24.2.2.1, .int .i64 r24.2.2.2.1])) tU fun _ =>
 .out 0 []) (
 .ite ((r16 : Int) == 96) (
 .op (callS F_Scanner_piece #[.pointer (some a0_a0), .int .i64 5, .int .i64 6]) (.c (.agg [.int .i64, .str, .int .i64, .int .i64])) fun r26 =>
 .op (stS T_api_Token (.pointer (some r4)) (.agg #[.int .i64 r26.1, .string r26.2.1, .int .i64 r26.2.2.1, .int .i64 r26.2.2.2.1])) tU fun _ =>
 .op (ldS T_int (.pointer (some r4))) tI fun r28 =>
 .ite ((r28 : Int) == 6) (
 .op (ldS T_Sbool (.pointer (some ⟨a0_a0.block, a0_a0.off + 2, none⟩))) tSl fun r29 =>
 .op (sliceS T_Sbool 1 #[(0, .bool true)]) tSl fun r30 =>
 .op (appS #[T_Sbool, T_Sbool] T_Sbool #[.slice r29.1 r29.2.1 r29.2.2, .slice r30.1 r30.2.1 r30.2.2]) tSl fun r31 =>
 .op (stS T_Sbool (.pointer (some ⟨a0_a0.block, a0_a0.off + 2, none⟩)) (.slice r31.1 r31.2.1 r31.2.2)) tU fun _ =>
 .out 0 []) (
 .out 0 [])) (
 .join 1 [.b .bool] (
 .draw <|
 .ite ((r16 : Int) == 125) (
 .opq (ldS T_Sbool (.pointer (some ⟨a0_a0.block, a0_a0.off + 2, none⟩))) tSl fun r33 =>
 .ite (decide (((r33.2.1 : Int) : Int) > 0)) (
 .opq (ldS T_Sbool (.pointer (some ⟨a0_a0.block, a0_a0.off + 2, none⟩))) tSl fun r34 =>
 .opq (ldS T_Sbool (.pointer (some ⟨a0_a0.block, a0_a0.off + 2, none⟩))) tSl fun r35 =>
 .opq (idxAS T_Sbool (.slice r34.1 r34.2.1 r34.2.2) (.int .i64 (IntKind.i64.wrap ((r35.2.1 : Int) - 1)))) tA fun r36 =>
 .opq (ldS T_bool (.pointer (some r36))) tB fun r37 =>
 .out 1 [.bool r37]) (
 .out 1 [.bool false])) (
 .out 1 [.bool false])) fun x38 =>
 .ite x38.1 (
 .op (callS F_Scanner_piece #[.pointer (some a0_a0), .int .i64 8, .int .i64 7]) (.c (.agg [.int .i64, .str, .int .i64, .int .i64])) fun r39 =>
 .op (stS T_api_Token (.pointer (some r4)) (.agg #[.int .i64 r39.1, .string r39.2.1, .int .i64 r39.2.2.1, .int .i64 r39.2.2.2.1])) tU fun _ =>
 .op (ldS T_int (.pointer (some r4))) tI fun r41 =>
 .ite ((r41 : Int) == 8) (
 .draw <|
 .opq (ldS T_Sbool (.pointer (some ⟨a0_a0.block, a0_a0.off + 2, none⟩))) tSl fun r42 =>
 .opq (ldS T_Sbool (.pointer (some ⟨a0_a0.block, a0_a0.off + 2, none⟩))) tSl fun r43 =>
 .opq (subS T_Sbool (.slice r42.1 r42.2.1 r42.2.2) none (some (.int .i64 (IntKind.i64.wrap ((r43.2.1 : Int) - 1)))) none) tSl fun r44 =>
 .op (stS T_Sbool (.pointer (some ⟨a0_a0.block, a0_a0.off + 2, none⟩)) (.slice r44.1 r44.2.1 r44.2.2)) tU fun _ =>
 .out 0 []) (
 .out 0 [])) (
 .op (callS F_Scanner_sign #[.pointer (some a0_a0)]) (.c (.agg [.int .i64, .str, .int .i64, .int .i64])) fun r46 =>
 .op (stS T_api_Token (.pointer (some r4)) (.agg #[.int .i64 r46.1, .string r46.2.1, .int .i64 r46.2.2.1, .int .i64 r46.2.2.2.1])) tU fun _ =>
 .out 0 [])))))) fun x48 =>
 .op (ldS T_int (.pointer (some r4))) tI fun r49 =>
 .ite ((r49 : Int) == 0) (
 .op (ldS T_int (.pointer (some ⟨a0_a0.block, a0_a0.off + 1, none⟩))) tI fun r50 =>
 .op (stS T_api_Token (.pointer (some r1)) (.agg #[.int .i64 0, .string kE, .int .i64 r50, .int .i64 0])) tU fun _ =>
 .ret #[.c (.pointer (some r1)) T_api_Token, .v (.bool false)]) (
 .op (ldS T_int (.pointer (some ⟨r4.block, r4.off + 3, none⟩))) tI fun r52 =>
 .op (stS T_int (.pointer (some ⟨a0_a0.block, a0_a0.off + 1, none⟩)) (.int .i64 r52)) tU fun _ =>
 .op (ldS T_api_Token (.pointer (some r4))) (.c (.agg [.int .i64, .str, .int .i64, .int .i64])) fun r54 =>
 .op (stS T_api_Token (.pointer (some r1)) (.agg #[.int .i64 r54.1, .string r54.2.1, .int .i64 r54.2.2.1, .int .i64 r54.2.2.2.1])) tU fun _ =>
 .ret #[.c (.pointer (some r1)) T_api_Token, .v (.bool true)])))
theorem d_Scanner_Next (a0_a0 : Addr) : fnT Tryz.prog Tryz.f72 an_Scanner_Next [.pointer (some a0_a0)] = t_Scanner_Next a0_a0 := by kernel_rfl
theorem c_Scanner_Next {ε σ β : Type} {I : Ifc ε σ} {t : Ty} {s : Sp ε σ β} {Rel : β → t.den → Own → Fact} {Γ : List Fact} (a0_a0 : Addr) (h : Sim Tryz.prog I t Rel noLabel none (t_Scanner_Next a0_a0) s [] Γ) : MeetsO Tryz.prog I (callS F_Scanner_Next #[.pointer (some a0_a0)]) t s Rel Γ :=
  meets_of_sim (args := [.pointer (some a0_a0)]) Tryz.func72 rfl rfl (Nat.le_of_ble_eq_true rfl) (by rw [d_Scanner_Next]; exact h)
end
end Go.Proofs.YtjlgcpgjdgeejaaGreatDoor
end

/- The scanner's next token. Conditions: none. -/
section
namespace Go.Proofs.YtjlgcpgjdgeejaaGreatDoor
open Go
set_option linter.unusedSimpArgs false
set_option linter.unusedVariables false
set_option linter.constructorNameAsVariable false
set_option maxRecDepth 100000

section
variable {b : ByteArray} {sl : SlD} {pb : Nat}
theorem s_lastq {β : Type} {t : Ty} {Rel : β → t.den → Own → Fact} {Δ : Labels Empty SSt β} {L Lq : Own} {Γ Γq : List Fact} {st : SSt} {run : Option (Res Empty SSt β)} {k1 : Bool → T} {k2 : T}
    (h1 : ∀ c, st.opn.getLast? = some c → SimK PG (SI b sl pb) t Rel Δ (some (Γq, Lq)) st (k1 c) run L Γ) (h2 : st.opn.getLast? = none → SimK PG (SI b sl pb) t Rel Δ (some (Γq, Lq)) st k2 run L Γ) :
    SimK PG (SI b sl pb) t Rel Δ (some (Γq, Lq)) st (.opq (ldS T_Sbool (.pointer (some ⟨pb, 0 + 2, none⟩))) tSl fun r33 => .ite (decide (((r33.2.1 : Int) : Int) > 0)) (
      .opq (ldS T_Sbool (.pointer (some ⟨pb, 0 + 2, none⟩))) tSl fun r34 => .opq (ldS T_Sbool (.pointer (some ⟨pb, 0 + 2, none⟩))) tSl fun r35 =>
      .opq (idxAS T_Sbool (.slice r34.1 r34.2.1 r34.2.2) (.int .i64 (IntKind.i64.wrap ((r35.2.1 : Int) - 1)))) tA fun r36 => .opq (ldS T_bool (.pointer (some r36))) tB k1) k2) run L Γ := by
  intro H
  refine at_ex fun osl => at_ex fun K => at_prop fun ⟨hH, hB, hp⟩ => ?_
  subst hH
  have hl := hB.len
  simp only [List.length_map, Nat.mul_one] at hl
  have hinv : ∀ F, ((SI b sl pb).inv st ((pb, blk T_scan_Scanner (scCells sl st.pos osl)) :: K)).p F := fun F => ⟨osl, K, rfl, hB, hp⟩
  refine at_opq (t1 := tSl) osl (qval_ld1 (QRd.own (List.mem_cons_self ..)) (by kernel_rfl) rfl rfl) (at_ite (fun h => ?_) (fun h => ?_))
  · have hpos : 0 < osl.2.1 := by have := of_decide_eq_true h; omega
    obtain ⟨g, cells, rfl, hx1, h3, h4, h5, h6, h7⟩ := hB.open hpos
    refine at_opq (t1 := tSl) osl (qval_ld1 (QRd.own (List.mem_cons_self ..)) (by kernel_rfl) rfl rfl) ?_
    refine at_opq (t1 := tSl) osl (qval_ld1 (QRd.own (List.mem_cons_self ..)) (by kernel_rfl) rfl rfl) ?_
    refine at_opq (t1 := tA) ⟨g, osl.2.1 - 1, none⟩ (qval_pure fun w => ?_) ?_
    · have hm : osl.2.2 ≤ 9223372036854775807 := by unfold maxLen at h5; omega
      rw [wrap_id (by omega) (by omega), hx1, run_idxA (n := 1) (by kernel_rfl) (by omega) (by omega)]
      have : ((osl.2.1 : Int) - 1).toNat * 1 = osl.2.1 - 1 := by omega
      rw [this]
      simp only [Ty.enc, C.enc, B.enc]
      congr 4
      obtain ⟨x1, x2, x3⟩ := addr_add (⟨g, 0, none⟩ : Addr) rfl (osl.2.1 - 1)
      cases hh : (⟨g, 0, none⟩ : Addr).add (osl.2.1 - 1) with
      | mk p o sp => rw [hh] at x1 x2 x3; simp only at x1 x2 x3; subst x1; subst x2; subst x3; simp
    · obtain ⟨v, hv⟩ : ∃ v, st.opn[osl.2.1 - 1]? = some v := ⟨_, List.getElem?_eq_getElem (by omega)⟩
      have hlast : st.opn.getLast? = some v := by rw [List.getLast?_eq_getElem?, hl]; exact hv
      have hcell : cells[osl.2.1 - 1]? = some (.bool v) := by
        have e : (cells.take (osl.2.1 * 1))[osl.2.1 - 1]? = (st.opn.map Value.bool)[osl.2.1 - 1]? := by rw [h7]
        rw [List.getElem?_take, if_pos (by omega), List.getElem?_map, hv] at e
        exact e
      refine at_opq (t1 := tB) v (qval_ld1 (T0 := T_bool) (l := cells) (QRd.own (List.mem_append_left _ (List.mem_cons_of_mem _ (List.mem_cons_self ..)))) (by kernel_rfl) rfl hcell) ?_
      intro r w F res S hs hF hsp hq
      exact h1 _ hlast _ r w F res S hs (Holds.cons (hinv F) hF) hsp hq
  · have hz : osl.2.1 = 0 := by have := of_decide_eq_false h; omega
    have : st.opn.getLast? = none := by rw [List.getLast?_eq_none_iff]; exact List.eq_nil_of_length_eq_zero (by omega)
    intro r w F res S hs hF hsp hq
    exact h2 this _ r w F res S hs (Holds.cons (hinv F) hF) hsp hq
abbrev tNext : Ty := .tup [.agg bsTok, .b .bool]
abbrev NextR := HC [.agg bsTok, .b .bool]
def toN {σ : Type} (x : (Tok × Bool) × σ) : Res Empty σ NextR := .ok (x.1.1, x.1.2, ()) x.2
def scanS (b : ByteArray) : Sp Empty SSt NextR := fun st => (nextV b st).map toN
def endS (b : ByteArray) (t : Tok) : Sp Empty SSt NextR := fun st => (endV b t st).map toN
theorem k_retTB {σ : Type} {I : Ifc Empty σ} {Δ : Labels Empty σ NextR} {md : Mode} {L L1 L2 : Own} {Γ : List Fact} {st : σ} {run : Option (Res Empty σ NextR)} {b1 : Nat} {l : List Value} {c : Bool} (x : Tok) (hL : L = L1 ++ (b1, blk T_api_Token l) :: L2) (hl : l.length = 4) (hrun : run = some (.ok (x, c, ()) st)) :
    SimK PG I tNext (pl RelEq) Δ md st (.op (stS T_api_Token (.pointer (some ⟨b1, 0, none⟩)) (.agg #[.int .i64 x.1, .string x.2.1, .int .i64 x.2.2.1, .int .i64 x.2.2.2.1])) tU fun _ => .ret #[.c (.pointer (some ⟨b1, 0, none⟩)) T_api_Token, .v (.bool c)]) run L Γ := by
  refine k_loc (loc_st (L1 := L1) (L2 := L2) (l := l) (T := T_api_Token) (T0 := T_api_Token) (c := true) hL (by kernel_rfl) rfl (by simp [Value.cells, hl]) (by simp [Value.cells, Value.oneCell'])) ?_
  rintro _ _ _ ⟨rfl, rfl⟩
  have hs : splice l 0 (Value.agg #[.int .i64 x.1, .string x.2.1, .int .i64 x.2.2.1, .int .i64 x.2.2.2.1]).cells.toList = encTok x := by
    rw [splice_all (by simp [Value.cells, hl])]; rfl
  refine k_ret (t := tNext) (x, c, ()) (x, c, ()) hrun (fun r w F H hF hsp => ?_) fun F hF => rfl
  refine run_resRcA1 (a := ⟨b1, 0, none⟩) (T0 := T_api_Token) (l := encTok x) (vs := encTok x) (v := .bool c) (by kernel_rfl) (hsp.own _ _ (List.mem_append_right _ (List.mem_append_right _ ?_))) rfl rfl
  show _ ∈ (b1, blk T_api_Token (splice l 0 (Value.agg #[.int .i64 x.1, .string x.2.1, .int .i64 x.2.2.1, .int .i64 x.2.2.2.1]).cells.toList)) :: L2
  rw [hs]; exact List.mem_cons_self ..
theorem k_stT {ε σ β : Type} {I : Ifc ε σ} {t : Ty} {Rel : β → t.den → Own → Fact} {Δ : Labels ε σ β} {md : Mode} {L : Own} {Γ : List Fact} {st : σ} {run : Option (Res ε σ β)} {k : T} {b1 : Nat} {y : Tok} (x : Tok)
    (hk : SimK PG I t Rel Δ none st k run ((b1, blk T_api_Token (encTok x)) :: L) Γ) :
    SimK PG I t Rel Δ md st (.op (stS T_api_Token (.pointer (some ⟨b1, 0, none⟩)) (.agg #[.int .i64 x.1, .string x.2.1, .int .i64 x.2.2.1, .int .i64 x.2.2.2.1])) tU fun _ => k) run ((b1, blk T_api_Token (encTok y)) :: L) Γ := by
  refine k_loc (loc_st (L1 := []) (L2 := L) (l := encTok y) (T := T_api_Token) (T0 := T_api_Token) (c := true) rfl (by kernel_rfl) rfl (Nat.le_of_ble_eq_true rfl) (by simp [Value.cells, Value.oneCell'])) ?_
  rintro _ _ _ ⟨rfl, rfl⟩
  exact hk
theorem scan_m (hb : b.size ≤ 65536) : Meets PG (SI b sl pb) (callS F_Scanner_Next #[.pointer (some ⟨pb, 0, none⟩)]) tNext (scanS b) RelEq [ByF sl b, MxF] := by
  refine c_Scanner_Next ⟨pb, 0, none⟩ (k_open fun st => ?_)
  unfold t_Scanner_Next
  have hdef : scanS b st = (match blanksV b (b.size + 1) st.pos with
    | none => none
    | some (j, fine) => if !fine then some (toN ((⟨0, kE, j, 0, ()⟩, false), { st with pos := j }))
      else if j = b.size then some (toN ((⟨10, kE, j, j, ()⟩, true), { st with pos := j }))
      else match startB b (bAt b j) { st with pos := j } with
        | none => none
        | some (t, st') => endS b t st') := by
    simp only [scanS, nextV]
    cases blanksV b (b.size + 1) st.pos with
    | none => rfl
    | some x =>
      obtain ⟨j, fine⟩ := x
      cases fine with
      | false => rfl
      | true =>
        simp only
        split
        · rfl
        · split
          · rfl
          · cases startB b (bAt b j) { st with pos := j } <;> rfl
  rw [hdef]
  refine k_varT0 fun b1 => ?_
  refine k_call (blanks_m hb) (by simp) (fun h => ?_) (fun e => e.elim) fun x c st' h => ?_
  · cases h2 : blanksV b (b.size + 1) st.pos with
    | none => rfl
    | some x => simp only [blanksL, h2] at h; cases h
  cases h2 : blanksV b (b.size + 1) st.pos with
  | none => simp only [blanksL, h2] at h; cases h
  | some x2 =>
  obtain ⟨j, fine⟩ := x2
  simp only [blanksL, h2, Option.map_some, Option.some.injEq, Res.ok.injEq] at h
  obtain ⟨rfl, rfl⟩ := h
  refine k_fact fun F hx => ?_
  obtain rfl : fine = x := hx.symm
  refine s_le fun hle => s_pos ?_
  refine k_varT ((0, kE, (j : Int), 0, ()) : Tok) fun b4 => ?_
  cases fine with
  | false =>
    refine k_ite (fun h => ?_) (fun h => by cases h)
    refine k_ldT ((0, kE, (j : Int), 0, ()) : Tok) (List.mem_cons_self ..) ?_
    exact k_retTB (L1 := [_]) (L2 := []) ((0, kE, (j : Int), 0, ()) : Tok) rfl rfl rfl
  | true =>
  refine k_ite (fun h => by cases h) (fun h => ?_)
  simp only [Bool.not_true, if_neg (show ¬ false = true by decide)]
  refine k_draw [] (fun _ h => nomatch h) (s_posq (s_bq (k_len (by repeat (first | exact mz | apply ms)) fun hl => k_ite (fun h => ?_) (fun h => ?_))))
  · have hj : j = b.size := by have : (j : Int) = (sl.2.1 : Int) := eq_of_beq h; omega
    simp only [if_pos hj]
    refine k_draw [] (fun _ h => nomatch h) (s_posq (s_posq ?_))
    refine k_locl (loc_st (L1 := [(b4, blk T_api_Token (encTok (0, kE, (j : Int), 0, ())))]) (L2 := []) (l := encTok noTok) (T := T_api_Token) (T0 := T_api_Token) (c := true) rfl (by kernel_rfl) rfl (Nat.le_of_ble_eq_true rfl) (by simp [Value.cells, Value.oneCell'])) ?_
    rintro _ _ _ ⟨rfl, rfl⟩
    refine ⟨(fun _ h => nomatch h), ?_⟩
    refine k_ret (t := tNext) (((10, kE, (j : Int), (j : Int), ()) : Tok), true, ()) (((10, kE, (j : Int), (j : Int), ()) : Tok), true, ()) rfl (fun r w F H hF hsp => ?_) fun F hF => rfl
    exact run_resRcA1 (a := ⟨b1, 0, none⟩) (T0 := T_api_Token) (l := encTok (10, kE, (j : Int), (j : Int), ())) (vs := encTok (10, kE, (j : Int), (j : Int), ())) (v := .bool true) (by kernel_rfl) (hsp.own _ _ (List.mem_append_right _ (List.mem_cons_of_mem _ (List.mem_cons_self ..)))) rfl rfl
  · have hj : ¬ j = b.size := by intro h'; have : ((j : Int) == (sl.2.1 : Int)) = true := by rw [h', hl]; exact beq_self_eq_true _
                                 have h3 : ((j : Int) == (sl.2.1 : Int)) = false := h
                                 rw [this] at h3; cases h3
    simp only [if_neg hj]
    have hjl : j < b.size := by have : j ≤ b.size := hle; omega
    refine k_draw [] (fun _ h => nomatch h) (s_bq (s_posq (k_byteq j (by repeat (first | exact mz | apply ms)) (by repeat (first | exact mz | apply ms)) rfl hjl ?_)))
    refine k_val (letter_m _) (fun _ h => nomatch h) ?_
    refine k_joinG (δ := Tok) (ts := []) (fun _ => ()) (fun t => [(b4, blk T_api_Token (encTok t)), (b1, blk T_api_Token (encTok noTok))]) (endS b) ?_ fun t st => ?_
    · have hst : ∀ (t : Tok) (st' : SSt), startB b (bAt b j) ⟨j, st.opn⟩ = some (t, st') → (match startB b (bAt b j) ⟨j, st.opn⟩ with
        | none => none
        | some (t, st') => endS b t st') = endS b t st' := fun t st' h => by rw [h]
      have hno : startB b (bAt b j) ⟨j, st.opn⟩ = none → (match startB b (bAt b j) ⟨j, st.opn⟩ with
        | none => none
        | some (t, st') => endS b t st') = none := fun h => by rw [h]
      have out0 : ∀ {md : Mode} {Γ : List Fact} {st' : SSt} {run} (t : Tok), run = endS b t st' → SimK PG (SI b sl pb) tNext (pl RelEq) (noLabel.set 0 (lbG [] (fun _ => ()) (fun t => [(b4, blk T_api_Token (encTok t)), (b1, blk T_api_Token (encTok noTok))]) (endS b))) md st' (.out 0 []) run [(b4, blk T_api_Token (encTok t)), (b1, blk T_api_Token (encTok noTok))] Γ := fun t h =>
        k_outG t lbR0 rfl rfl h
      refine k_ite (fun h1 => ?_) (fun h1 => ?_)
      · have hs : startB b (bAt b j) ⟨j, st.opn⟩ = (wordV b j).map fun t => (t, ⟨j, st.opn⟩) := by unfold startB; rw [if_pos h1]
        refine k_call (word_m hb) (by simp) (fun h => hno ?_) (fun e => e.elim) fun x t st' h => ?_
        · rw [hs]; simp only [wordS] at h; cases h2 : wordV b j with
          | none => rfl
          | some t => rw [h2] at h; cases h
        · simp only [wordS] at h
          cases h2 : wordV b j with
          | none => rw [h2] at h; cases h
          | some t2 =>
          rw [h2] at h
          simp only [Option.map_some, Option.some.injEq, Res.ok.injEq] at h
          obtain ⟨rfl, rfl⟩ := h
          refine k_fact fun F hx => ?_
          obtain rfl : x = t2 := hx
          exact k_stT x (out0 x (hst _ _ (by rw [hs, h2]; rfl)))
      · have h1' : letterB (bAt b j) = false := h1
        refine k_val (digit_m _) (fun _ h => nomatch h) (k_ite (fun h2 => ?_) (fun h2 => ?_))
        · have hs : startB b (bAt b j) ⟨j, st.opn⟩ = (numberV b j).map fun t => (t, ⟨j, st.opn⟩) := by unfold startB; rw [h1', if_neg (by decide), if_pos h2]
          refine k_call (number_mS hb) (by simp) (fun h => hno ?_) (fun e => e.elim) fun x t st' h => ?_
          · rw [hs]; simp only [numberS] at h; cases h2 : numberV b j with
            | none => rfl
            | some t => rw [h2] at h; cases h
          · simp only [numberS] at h
            cases h2 : numberV b j with
            | none => rw [h2] at h; cases h
            | some t2 =>
            rw [h2] at h
            simp only [Option.map_some, Option.some.injEq, Res.ok.injEq] at h
            obtain ⟨rfl, rfl⟩ := h
            refine k_fact fun F hx => ?_
            obtain rfl : x = t2 := hx
            exact k_stT x (out0 x (hst _ _ (by rw [hs, h2]; rfl)))
        · have h2' : digitB (bAt b j) = false := h2
          have hs3 : startB b (bAt b j) ⟨j, st.opn⟩ = (if (bAt b j == 34) || (bAt b j == 39) then none
            else if bAt b j == 96 then none
            else if bAt b j == 125 && st.opn.getLast?.getD false then none
            else signW b ⟨j, st.opn⟩) := by unfold startB; rw [h1', h2', if_neg (by decide), if_neg (by decide)]
          refine k_join (fun x st' => if st' = ⟨j, st.opn⟩ then (if x.1 = true then none else if x.1 = (bAt b j == 34 || bAt b j == 39) then (match startB b (bAt b j) ⟨j, st.opn⟩ with
            | none => none
            | some (t, st') => endS b t st') else none) else none) ?_ fun y2 st2 => ?_
          · have fin : ∀ c : Bool, c = (bAt b j == 34 || bAt b j == 39) → (match startB b (bAt b j) ⟨j, st.opn⟩ with
              | none => none
              | some (t, st') => endS b t st') = (if (⟨j, st.opn⟩ : SSt) = ⟨j, st.opn⟩ then (if c = true then none else if c = (bAt b j == 34 || bAt b j == 39) then (match startB b (bAt b j) ⟨j, st.opn⟩ with
              | none => none
              | some (t, st') => endS b t st') else none) else none) := fun c hc => by
              rw [if_pos rfl]
              cases c with
              | false => rw [if_neg (by decide), if_pos hc]
              | true => rw [if_pos rfl]; exact hno (by rw [hs3, ← hc]; rfl)
            refine k_ite (fun h3 => ?_) (fun h3 => ?_)
            · exact k_outV (s' := fun (x : HC [.b .bool]) st' => if st' = ⟨j, st.opn⟩ then (if x.1 = true then none else if x.1 = (bAt b j == 34 || bAt b j == 39) then (match startB b (bAt b j) ⟨j, st.opn⟩ with
              | none => none
              | some (t, st') => endS b t st') else none) else none) (true, ()) lbR0 rfl (fin true (by rw [show (bAt b j == 34) = true from h3]; rfl))
            · exact k_outV (s' := fun (x : HC [.b .bool]) st' => if st' = ⟨j, st.opn⟩ then (if x.1 = true then none else if x.1 = (bAt b j == 34 || bAt b j == 39) then (match startB b (bAt b j) ⟨j, st.opn⟩ with
              | none => none
              | some (t, st') => endS b t st') else none) else none) ((bAt b j == 39 : Bool), ()) lbR0 rfl (fin _ (by rw [show (bAt b j == 34) = false from h3]; rfl))
          · obtain ⟨(c : Bool), ⟨⟩⟩ := y2
            by_cases hs2 : st2 = ⟨j, st.opn⟩
            case neg => exact k_none (if_neg hs2)
            subst hs2
            rw [if_pos rfl]
            refine k_ite (fun h3 => ?_) (fun h3 => ?_)
            · exact k_none (if_pos h3)
            obtain rfl : c = false := h3
            by_cases hq : false = (bAt b j == 34 || bAt b j == 39)
            case neg => exact k_none (by show (if false = true then none else if false = (bAt b j == 34 || bAt b j == 39) then _ else none) = none; rw [if_neg (by decide), if_neg hq])
            show SimK _ _ _ _ _ _ _ _ (if false = true then none else if false = (bAt b j == 34 || bAt b j == 39) then _ else none) _ _
            rw [if_neg (show ¬ false = true by decide), if_pos hq]
            rw [← hq, if_neg (show ¬ false = true by decide)] at hs3
            refine k_ite (fun h4 => ?_) (fun h4 => ?_)
            · exact k_none (hno (by rw [hs3, if_pos h4]))
            rw [show (bAt b j == 96) = false from h4, if_neg (show ¬ false = true by decide)] at hs3
            refine k_join (fun x st' => if st' = ⟨j, st.opn⟩ then (if x.1 = true then none else if x.1 = (bAt b j == 125 && st.opn.getLast?.getD false) then (match startB b (bAt b j) ⟨j, st.opn⟩ with
              | none => none
              | some (t, st') => endS b t st') else none) else none) ?_ fun y2 st2 => ?_
            · have fin : ∀ c : Bool, c = (bAt b j == 125 && st.opn.getLast?.getD false) → (match startB b (bAt b j) ⟨j, st.opn⟩ with
                | none => none
                | some (t, st') => endS b t st') = (if (⟨j, st.opn⟩ : SSt) = ⟨j, st.opn⟩ then (if c = true then none else if c = (bAt b j == 125 && st.opn.getLast?.getD false) then (match startB b (bAt b j) ⟨j, st.opn⟩ with
                | none => none
                | some (t, st') => endS b t st') else none) else none) := fun c hc => by
                rw [if_pos rfl]
                cases c with
                | false => rw [if_neg (by decide), if_pos hc]
                | true => rw [if_pos rfl]; exact hno (by rw [hs3, ← hc]; rfl)
              refine k_draw [] (fun _ h => nomatch h) (k_ite (fun h5 => ?_) (fun h5 => ?_))
              · refine s_lastq (fun c hc => ?_) (fun hc => ?_)
                · exact k_outV (s' := fun (x : HC [.b .bool]) st' => if st' = ⟨j, st.opn⟩ then (if x.1 = true then none else if x.1 = (bAt b j == 125 && st.opn.getLast?.getD false) then (match startB b (bAt b j) ⟨j, st.opn⟩ with
              | none => none
              | some (t, st') => endS b t st') else none) else none) (c, ()) lbR0 rfl (fin c (by rw [show (bAt b j == 125) = true from h5]; have hc' : st.opn.getLast? = some c := hc; rw [hc']; rfl))
                · exact k_outV (s' := fun (x : HC [.b .bool]) st' => if st' = ⟨j, st.opn⟩ then (if x.1 = true then none else if x.1 = (bAt b j == 125 && st.opn.getLast?.getD false) then (match startB b (bAt b j) ⟨j, st.opn⟩ with
              | none => none
              | some (t, st') => endS b t st') else none) else none) (false, ()) lbR0 rfl (fin false (by have hc' : st.opn.getLast? = none := hc; rw [hc']; simp))
              · exact k_outV (s' := fun (x : HC [.b .bool]) st' => if st' = ⟨j, st.opn⟩ then (if x.1 = true then none else if x.1 = (bAt b j == 125 && st.opn.getLast?.getD false) then (match startB b (bAt b j) ⟨j, st.opn⟩ with
              | none => none
              | some (t, st') => endS b t st') else none) else none) (false, ()) lbR0 rfl (fin false (by rw [show (bAt b j == 125) = false from h5]; rfl))
            · obtain ⟨(c : Bool), ⟨⟩⟩ := y2
              by_cases hs2 : st2 = ⟨j, st.opn⟩
              case neg => exact k_none (if_neg hs2)
              subst hs2
              rw [if_pos rfl]
              refine k_ite (fun h3 => ?_) (fun h3 => ?_)
              · exact k_none (if_pos h3)
              obtain rfl : c = false := h3
              by_cases hq : false = (bAt b j == 125 && st.opn.getLast?.getD false)
              case neg => exact k_none (by show (if false = true then none else if false = (bAt b j == 125 && st.opn.getLast?.getD false) then _ else none) = none; rw [if_neg (by decide), if_neg hq])
              show SimK _ _ _ _ _ _ _ _ (if false = true then none else if false = (bAt b j == 125 && st.opn.getLast?.getD false) then _ else none) _ _
              rw [if_neg (show ¬ false = true by decide), if_pos hq]
              rw [← hq, if_neg (show ¬ false = true by decide)] at hs3
              refine k_call (sign_m hb) (by simp) (fun h => hno ?_) (fun e => e.elim) fun x t st' h => ?_
              · rw [hs3]; simp only [signS, okS] at h; cases h2 : signW b ⟨j, st.opn⟩ with
                | none => rfl
                | some t => rw [h2] at h; cases h
              · simp only [signS, okS] at h
                cases h2 : signW b ⟨j, st.opn⟩ with
                | none => rw [h2] at h; cases h
                | some t2 =>
                rw [h2] at h
                simp only [Option.map_some, Option.some.injEq, Res.ok.injEq] at h
                obtain ⟨rfl, rfl⟩ := h
                refine k_fact fun F hx => ?_
                have hx' : x = t2.1 := hx
                subst hx'
                exact k_stT t2.1 (out0 t2.1 (hst _ _ (by rw [hs3, h2])))
    · have he : endS b t st = (if t.kind == 0 then some (.ok ((0, kE, (st.pos : Int), 0, ()), false, ()) st) else if 0 ≤ t.fin ∧ t.fin ≤ b.size then some (.ok (t, true, ()) { st with pos := t.fin.toNat }) else none) := by
        simp only [endS, endV]
        split
        · rfl
        · split <;> rfl
      rw [he]
      refine k_ldO (b1 := .int .i64) t.kind (List.mem_cons_self ..) (by kernel_rfl) rfl rfl (k_ite (fun h1 => ?_) (fun h1 => ?_))
      · rw [if_pos h1]
        refine s_pos ?_
        exact k_retTB (L1 := [_]) (L2 := []) ((0, kE, (st.pos : Int), 0, ()) : Tok) rfl rfl rfl
      · rw [show (t.kind == 0) = false from h1, if_neg (show ¬ false = true by decide)]
        by_cases hf : 0 ≤ t.fin ∧ t.fin ≤ b.size
        case neg => exact k_none (if_neg hf)
        rw [if_pos hf]
        refine k_ldO (b1 := .int .i64) t.fin (List.mem_cons_self ..) (by kernel_rfl) rfl rfl ?_
        refine s_set t.fin.toNat (by omega) (by omega) ?_
        refine k_ldT t (List.mem_cons_self ..) ?_
        exact k_retTB (L1 := [_]) (L2 := []) t rfl rfl rfl
end
end Go.Proofs.YtjlgcpgjdgeejaaGreatDoor
end

/- The trees of functions of the program, each with the proof that it is the tree of the translated code. Conditions: none. By program. -/
section
namespace Go.Proofs.YtjlgcpgjdgeejaaGreatDoor
open Go
set_option linter.unusedVariables false
set_option maxRecDepth 100000
noncomputable section
def an_slices_Clone_byte_byte : An :=
  .s (.r [none]) (.s (.s (.r [none, some tB]) (.c (.s (.r [none]) (.x)) (.x))) (.s (.r [some tSl, none, some tSl, none]) (.x)))
def t_slices_Clone_byte_byte (a0_s : Option Addr × Nat × Nat) : T :=
 .op (binS .eql T_Suint8 (.slice a0_s.1 a0_s.2.1 a0_s.2.2) (.slice none 0 0)) tB fun r1 =>
 .ite r1 (
 .ret #[.v (.slice none 0 0)]) (
 .op (sliceS T_Suint8 0 #[]) tSl fun r2 =>
 .op (appS #[T_Suint8, T_Suint8] T_Suint8 #[.slice r2.1 r2.2.1 r2.2.2, .slice a0_s.1 a0_s.2.1 a0_s.2.2]) tSl fun r3 =>
 .ret #[.v (.slice r3.1 r3.2.1 r3.2.2)])
theorem d_slices_Clone_byte_byte (a0_s : Option Addr × Nat × Nat) : fnT Tryz.prog Tryz.f69 an_slices_Clone_byte_byte [.slice a0_s.1 a0_s.2.1 a0_s.2.2] = t_slices_Clone_byte_byte a0_s := by kernel_rfl
theorem c_slices_Clone_byte_byte {ε σ β : Type} {I : Ifc ε σ} {t : Ty} {s : Sp ε σ β} {Rel : β → t.den → Own → Fact} {Γ : List Fact} (a0_s : Option Addr × Nat × Nat) (h : Sim Tryz.prog I t Rel noLabel none (t_slices_Clone_byte_byte a0_s) s [] Γ) : MeetsO Tryz.prog I (callS F_slices_Clone_byte_byte #[.slice a0_s.1 a0_s.2.1 a0_s.2.2]) t s Rel Γ :=
  meets_of_sim (args := [.slice a0_s.1 a0_s.2.1 a0_s.2.2]) Tryz.func69 rfl rfl (Nat.le_of_ble_eq_true rfl) (by rw [d_slices_Clone_byte_byte]; exact h)

def an_lex_Scan : An :=
  .s (.r [some tA, none]) (.s (.r [some tSl, some tSl, some tU]) (.s (.r [none, none]) (.x)))
def t_lex_Scan (a0_b : Option Addr × Nat × Nat) : T :=
 .op (boxS T_Suint8 (.slice a0_b.1 a0_b.2.1 a0_b.2.2)) tA fun r1 =>
 .op (ldS T_Suint8 (.pointer (some r1))) tSl fun r2 =>
 .op (callS F_slices_Clone_byte_byte #[.slice r2.1 r2.2.1 r2.2.2]) tSl fun r3 =>
 .op (stS T_Suint8 (.pointer (some r1)) (.slice r3.1 r3.2.1 r3.2.2)) tU fun _ =>
 .ret #[.v (.func (.func F_lex_Scan_1) #[] #[.pointer (some r1)])]
theorem d_lex_Scan (a0_b : Option Addr × Nat × Nat) : fnT Tryz.prog Tryz.f43 an_lex_Scan [.slice a0_b.1 a0_b.2.1 a0_b.2.2] = t_lex_Scan a0_b := by kernel_rfl
theorem c_lex_Scan {ε σ β : Type} {I : Ifc ε σ} {t : Ty} {s : Sp ε σ β} {Rel : β → t.den → Own → Fact} {Γ : List Fact} (a0_b : Option Addr × Nat × Nat) (h : Sim Tryz.prog I t Rel noLabel none (t_lex_Scan a0_b) s [] Γ) : MeetsO Tryz.prog I (callS F_lex_Scan #[.slice a0_b.1 a0_b.2.1 a0_b.2.2]) t s Rel Γ :=
  meets_of_sim (args := [.slice a0_b.1 a0_b.2.1 a0_b.2.2]) Tryz.func43 rfl rfl (Nat.le_of_ble_eq_true rfl) (by rw [d_lex_Scan]; exact h)

def an_lex_Scan_1 : An :=
  .b (.s (.s (.r [some tSl, none, none]) (.c (.s (.r [none, none, some tB]) (.x)) (.x))) (.s (.r [some tSl, some tP, none]) (.s (.x) (.s (.r [none]) (.b (.l [(4, .b (.int .i64))] (.s (.b (.s (.r [none, some (.tup [.agg [.int .i64, .str, .int .i64, .int .i64], .b .bool]), none, none, none, some tA, some tU, none]) (.s (.b (.s (.r [none, none, none]) (.c (.s (.r [none, none, some tI, none, some tB]) (.x)) (.s (.j [(30, .b .bool)] (.r [none, none, none, none, some tI, none, none, none])) (.c (.s (.r [none, none, some tI, none, some tB]) (.x)) (.s (.r [none, some (.c (.agg [.int .i64, .str, .int .i64, .int .i64])), some tB, none, none, none, some tI, none, none, none]) (.c (.x) (.x)))))))) (.x)))) (.r [none, none, none]))))))))
def t_lex_Scan_1 (a0_yield : Value) (a1_a1 : Addr) : T :=
 .op (ldS T_Suint8 (.pointer (some a1_a1))) tSl fun r1 =>
 .ite (decide (((r1.2.1 : Int) : Int) > 65536)) (
 .op (callvS a0_yield #[.agg #[.int .i64 0, .string kE, .int .i64 0, .int .i64 0], .int .i64 2]) tB fun r2 =>
 .ret #[]) (
 .op (ldS T_Suint8 (.pointer (some a1_a1))) tSl fun r3 =>
 .op (callS F_scan_Begin #[.slice r3.1 r3.2.1 r3.2.2]) tP fun r4 =>
 .loop 0 [.b (.int .i64)] [.int .i64 0] fun x5 =>
 .op (callS F_Scanner_Next #[.pointer r4]) (.tup [.agg [.int .i64, .str, .int .i64, .int .i64], .b .bool]) fun r6 =>
 .op (allocS T_api_Token) tA fun r7 =>
 .op (stS T_api_Token (.pointer (some r7)) (.agg #[.int .i64 r6.1.1, .string r6.1.2.1, .int .i64 r6.1.2.2.1, .int .i64 r6.1.2.2.2.1])) tU fun _ =>
 .ite (!r6.2.1) (
 .op (ldS T_int (.pointer (some ⟨r7.block, r7.off + 2, none⟩))) tI fun r9 =>
 .op (callvS a0_yield #[.agg #[.int .i64 0, .string kE, .int .i64 r9, .int .i64 0], .int .i64 3]) tB fun r10 =>
 .ret #[]) (
 .join 1 [.b .bool] (
 .ite ((x5.1 : Int) == 8192) (
 .op (ldS T_int (.pointer (some r7))) tI fun r11 =>
 .out 1 [.bool ((r11 : Int) != 10)]) (
 .out 1 [.bool false])) fun x12 =>
 .ite x12.1 (
 .op (ldS T_int (.pointer (some ⟨r7.block, r7.off + 2, none⟩))) tI fun r13 =>
 .op (callvS a0_yield #[.agg #[.int .i64 0, .string kE, .int .i64 r13, .int .i64 0], .int .i64 4]) tB fun r14 =>
 .ret #[]) (
 .op (ldS T_api_Token (.pointer (some r7))) (.c (.agg [.int .i64, .str, .int .i64, .int .i64])) fun r15 =>
 .op (callvS a0_yield #[.agg #[.int .i64 r15.1, .string r15.2.1, .int .i64 r15.2.2.1, .int .i64 r15.2.2.2.1], .int .i64 0]) tB fun r16 =>
 .ite (!r16) (
 .ret #[]) (
 .op (ldS T_int (.pointer (some r7))) tI fun r17 =>
 .ite ((r17 : Int) == 10) (
 .ret #[]) (
 .out 0 [.int .i64 (IntKind.i64.wrap (x5.1 + 1))])))))
theorem d_lex_Scan_1 (a0_yield : Value) (a1_a1 : Addr) : fnT Tryz.prog Tryz.f70 an_lex_Scan_1 [a0_yield, .pointer (some a1_a1)] = t_lex_Scan_1 a0_yield a1_a1 := by kernel_rfl
theorem c_lex_Scan_1 {ε σ β : Type} {I : Ifc ε σ} {t : Ty} {s : Sp ε σ β} {Rel : β → t.den → Own → Fact} {Γ : List Fact} (a0_yield : Value) (a1_a1 : Addr) (h : Sim Tryz.prog I t Rel noLabel none (t_lex_Scan_1 a0_yield a1_a1) s [] Γ) : MeetsO Tryz.prog I (callS F_lex_Scan_1 #[a0_yield, .pointer (some a1_a1)]) t s Rel Γ :=
  meets_of_sim (args := [a0_yield, .pointer (some a1_a1)]) Tryz.func70 rfl rfl (Nat.le_of_ble_eq_true rfl) (by rw [d_lex_Scan_1]; exact h)

def an_lex_Depth : An :=
  .s (.r [none, none]) (.s (.r [none, none, none]) (.s (.s (.r [none, none, none]) (.b (.l [(6, .b (.int .i64)), (7, .b (.int .i64)), (8, .b (.int .i64)), (13, .b (.int .i64))] (.s (.r [none]) (.s (.c (.x) (.x)) (.s (.b (.s (.r [none, some tA, some (.c (.agg [.int .i64, .str, .int .i64, .int .i64])), some tA, none, some tU]) (.s (.r [none, some (.c (.agg [.int .i64, .str, .int .i64, .int .i64])), some tI, none, none, none]) (.s (.r [none, none, none, none]) (.s (.r [none, none, none, none, none, none, none]) (.c (.r [none, none]) (.x))))))) (.r [none, none]))))))) (.s (.r [none, none, none, none]) (.x))))
def t_lex_Depth (a0_l : Option Addr × Nat × Nat) (a1_most : Int) : T :=
 .loop 0 [.b (.int .i64), .b (.int .i64), .b (.int .i64), .b (.int .i64)] [.int .i64 0, .int .i64 0, .int .i64 (-1), .int .i64 0] fun x1 =>
 .ite (decide ((x1.2.2.2.1 : Int) < (a0_l.2.1 : Int))) (
 .op (idxAS T_Sapi_Token (.slice a0_l.1 a0_l.2.1 a0_l.2.2) (.int .i64 x1.2.2.2.1)) tA fun r2 =>
 .op (ldS T_api_Token (.pointer (some r2))) (.c (.agg [.int .i64, .str, .int .i64, .int .i64])) fun r3 =>
 .op (allocS T_api_Token) tA fun r4 =>
 .op (stS T_api_Token (.pointer (some r4)) (.agg #[.int .i64 r3.1, .string r3.2.1, .int .i64 r3.2.2.1, .int .i64 r3.2.2.2.1])) tU fun _ =>
 .op (ldS T_api_Token (.pointer (some r4))) (.c (.agg [.int .i64, .str, .int .i64, .int .i64])) fun r6 =>
 .op (callS F_scan_Turn #[.agg #[.int .i64 r6.1, .string r6.2.1, .int .i64 r6.2.2.1, .int .i64 r6.2.2.2.1]]) tI fun r7 =>
 .ite (decide ((if (IntKind.i64.wrap (x1.1 + r7) : Int) > 0 then IntKind.i64.wrap (x1.1 + r7) else 0 : Int) > a1_most)) (
 .ite (decide ((x1.2.2.1 : Int) < 0)) (
 .out 0 [.int .i64 (if (IntKind.i64.wrap (x1.1 + r7) : Int) > 0 then IntKind.i64.wrap (x1.1 + r7) else 0), .int .i64 (if (if (IntKind.i64.wrap (x1.1 + r7) : Int) > 0 then IntKind.i64.wrap (x1.1 + r7) else 0 : Int) > x1.2.1 then if (IntKind.i64.wrap (x1.1 + r7) : Int) > 0 then IntKind.i64.wrap (x1.1 + r7) else 0 else x1.2.1), .int .i64 x1.2.2.2.1, .int .i64 (IntKind.i64.wrap (x1.2.2.2.1 + 1))]) (
 .out 0 [.int .i64 (if (IntKind.i64.wrap (x1.1 + r7) : Int) > 0 then IntKind.i64.wrap (x1.1 + r7) else 0), .int .i64 (if (if (IntKind.i64.wrap (x1.1 + r7) : Int) > 0 then IntKind.i64.wrap (x1.1 + r7) else 0 : Int) > x1.2.1 then if (IntKind.i64.wrap (x1.1 + r7) : Int) > 0 then IntKind.i64.wrap (x1.1 + r7) else 0 else x1.2.1), .int .i64 x1.2.2.1, .int .i64 (IntKind.i64.wrap (x1.2.2.2.1 + 1))])) (
 .out 0 [.int .i64 (if (IntKind.i64.wrap (x1.1 + r7) : Int) > 0 then IntKind.i64.wrap (x1.1 + r7) else 0), .int .i64 (if (if (IntKind.i64.wrap (x1.1 + r7) : Int) > 0 then IntKind.i64.wrap (x1.1 + r7) else 0 : Int) > x1.2.1 then if (IntKind.i64.wrap (x1.1 + r7) : Int) > 0 then IntKind.i64.wrap (x1.1 + r7) else 0 else x1.2.1), .int .i64 x1.2.2.1, .int .i64 (IntKind.i64.wrap (x1.2.2.2.1 + 1))])) (
 .ret #[.v (.int .i64 x1.2.1), .v (.int .i64 x1.2.2.1)])
theorem d_lex_Depth (a0_l : Option Addr × Nat × Nat) (a1_most : Int) : fnT Tryz.prog Tryz.f49 an_lex_Depth [.slice a0_l.1 a0_l.2.1 a0_l.2.2, .int .i64 a1_most] = t_lex_Depth a0_l a1_most := by kernel_rfl
theorem c_lex_Depth {ε σ β : Type} {I : Ifc ε σ} {t : Ty} {s : Sp ε σ β} {Rel : β → t.den → Own → Fact} {Γ : List Fact} (a0_l : Option Addr × Nat × Nat) (a1_most : Int) (h : Sim Tryz.prog I t Rel noLabel none (t_lex_Depth a0_l a1_most) s [] Γ) : MeetsO Tryz.prog I (callS F_lex_Depth #[.slice a0_l.1 a0_l.2.1 a0_l.2.2, .int .i64 a1_most]) t s Rel Γ :=
  meets_of_sim (args := [.slice a0_l.1 a0_l.2.1 a0_l.2.2, .int .i64 a1_most]) Tryz.func49 rfl rfl (Nat.le_of_ble_eq_true rfl) (by rw [d_lex_Depth]; exact h)

def an_parse_whole : An :=
  .s (.r [some tA, none, none]) (.s (.r [none, some (.tup [.b .slice, .b (.int .i64), .b (.int .i64)]), none, none, none, none, none, none, none]) (.s (.s (.r [none, none]) (.c (.s (.r [none, none, none, some tU, none, none]) (.x)) (.x))) (.s (.s (.r [none, some (.tup [.b (.int .i64), .b (.int .i64)]), none, none, none, none, none]) (.s (.r [none, none]) (.c (.s (.d (.q 0 none (.q 1 none (.q 2 none (.q 3 (some tA) (.q 4 none (.q 5 (some tI) (.l 6 (some tU) (.q 7 none (.q 8 none (.e))))))))))) (.x)) (.x)))) (.s (.r [none, none, some (.tup [.agg [.slice], .b (.int .i64), .b .bool]), none, none, none, none, some tA, some tU, none, none]) (.s (.s (.r [none, none]) (.c (.s (.r [none, none, some tU, none, none]) (.x)) (.x))) (.s (.r [some (.c (.agg [.slice])), some tU, none, none]) (.x)))))))
def t_parse_whole (a0_b : Option Addr × Nat × Nat) (a1_kind : Int) : T :=
 .op (allocS T_api_Tree) tA fun r1 =>
 .op (callS F_lex_Tokens #[.slice a0_b.1 a0_b.2.1 a0_b.2.2]) (.tup [.b .slice, .b (.int .i64), .b (.int .i64)]) fun r2 =>
 .ite ((r2.2.2.1 : Int) != 0) (
 .op (stS T_api_Tree (.pointer (some r1)) (.agg #[.slice none 0 0])) tU fun _ =>
 .ret #[.c (.pointer (some r1)) T_api_Tree, .v (.int .i64 r2.2.1), .v (.int .i64 r2.2.2.1)]) (
 .op (callS F_lex_Depth #[.slice r2.1.1 r2.1.2.1 r2.1.2.2, .int .i64 64]) (.tup [.b (.int .i64), .b (.int .i64)]) fun r4 =>
 .ite (decide ((r4.2.1 : Int) ≥ 0)) (
 .draw <|
 .opq (idxAS T_Sapi_Token (.slice r2.1.1 r2.1.2.1 r2.1.2.2) (.int .i64 r4.2.1)) tA fun r5 =>
 .opq (ldS T_int (.pointer (some ⟨r5.block, r5.off + 2, none⟩))) tI fun r6 =>
 .opl (stS T_api_Tree (.pointer (some r1)) (.agg #[.slice none 0 0])) tU fun _ =>
 .ret #[.c (.pointer (some r1)) T_api_Tree, .v (.int .i64 r6), .v (.int .i64 5)]) (
 .op (callS F_syntax_Run #[.slice r2.1.1 r2.1.2.1 r2.1.2.2, .int .i64 a1_kind]) (.tup [.agg [.slice], .b (.int .i64), .b .bool]) fun r8 =>
 .op (allocS T_api_Tree) tA fun r9 =>
 .op (stS T_api_Tree (.pointer (some r9)) (.agg #[.slice r8.1.1.1 r8.1.1.2.1 r8.1.1.2.2])) tU fun _ =>
 .ite (!r8.2.2.1) (
 .op (stS T_api_Tree (.pointer (some r1)) (.agg #[.slice none 0 0])) tU fun _ =>
 .ret #[.c (.pointer (some r1)) T_api_Tree, .v (.int .i64 r8.2.1), .v (.int .i64 6)]) (
 .op (ldS T_api_Tree (.pointer (some r9))) (.c (.agg [.slice])) fun r12 =>
 .op (stS T_api_Tree (.pointer (some r1)) (.agg #[.slice r12.1.1 r12.1.2.1 r12.1.2.2])) tU fun _ =>
 .ret #[.c (.pointer (some r1)) T_api_Tree, .v (.int .i64 0), .v (.int .i64 0)])))
theorem d_parse_whole (a0_b : Option Addr × Nat × Nat) (a1_kind : Int) : fnT Tryz.prog Tryz.f33 an_parse_whole [.slice a0_b.1 a0_b.2.1 a0_b.2.2, .int .i64 a1_kind] = t_parse_whole a0_b a1_kind := by kernel_rfl
theorem c_parse_whole {ε σ β : Type} {I : Ifc ε σ} {t : Ty} {s : Sp ε σ β} {Rel : β → t.den → Own → Fact} {Γ : List Fact} (a0_b : Option Addr × Nat × Nat) (a1_kind : Int) (h : Sim Tryz.prog I t Rel noLabel none (t_parse_whole a0_b a1_kind) s [] Γ) : MeetsO Tryz.prog I (callS F_parse_whole #[.slice a0_b.1 a0_b.2.1 a0_b.2.2, .int .i64 a1_kind]) t s Rel Γ :=
  meets_of_sim (args := [.slice a0_b.1 a0_b.2.1 a0_b.2.2, .int .i64 a1_kind]) Tryz.func33 rfl rfl (Nat.le_of_ble_eq_true rfl) (by rw [d_parse_whole]; exact h)

def an_parse_Program : An :=
  .s (.r [some tA, none, none]) (.s (.r [none, some (.tup [.agg [.slice], .b (.int .i64), .b (.int .i64)]), none, none, none, some tU, none, none]) (.x))
def t_parse_Program (a0_b : Option Addr × Nat × Nat) : T :=
 .op (allocS T_api_Tree) tA fun r1 =>
 .op (callS F_parse_whole #[.slice a0_b.1 a0_b.2.1 a0_b.2.2, .int .i64 0]) (.tup [.agg [.slice], .b (.int .i64), .b (.int .i64)]) fun r2 =>
 .op (stS T_api_Tree (.pointer (some r1)) (.agg #[.slice r2.1.1.1 r2.1.1.2.1 r2.1.1.2.2])) tU fun _ =>
 .ret #[.c (.pointer (some r1)) T_api_Tree, .v (.int .i64 r2.2.1), .v (.int .i64 r2.2.2.1)]
theorem d_parse_Program (a0_b : Option Addr × Nat × Nat) : fnT Tryz.prog Tryz.f16 an_parse_Program [.slice a0_b.1 a0_b.2.1 a0_b.2.2] = t_parse_Program a0_b := by kernel_rfl
theorem c_parse_Program {ε σ β : Type} {I : Ifc ε σ} {t : Ty} {s : Sp ε σ β} {Rel : β → t.den → Own → Fact} {Γ : List Fact} (a0_b : Option Addr × Nat × Nat) (h : Sim Tryz.prog I t Rel noLabel none (t_parse_Program a0_b) s [] Γ) : MeetsO Tryz.prog I (callS F_parse_Program #[.slice a0_b.1 a0_b.2.1 a0_b.2.2]) t s Rel Γ :=
  meets_of_sim (args := [.slice a0_b.1 a0_b.2.1 a0_b.2.2]) Tryz.func16 rfl rfl (Nat.le_of_ble_eq_true rfl) (by rw [d_parse_Program]; exact h)

def an_parse_Expr : An :=
  .s (.r [some tA, none, none]) (.s (.r [none, some (.tup [.agg [.slice], .b (.int .i64), .b (.int .i64)]), none, none, none, some tU, none, none]) (.x))
def t_parse_Expr (a0_b : Option Addr × Nat × Nat) : T :=
 .op (allocS T_api_Tree) tA fun r1 =>
 .op (callS F_parse_whole #[.slice a0_b.1 a0_b.2.1 a0_b.2.2, .int .i64 1]) (.tup [.agg [.slice], .b (.int .i64), .b (.int .i64)]) fun r2 =>
 .op (stS T_api_Tree (.pointer (some r1)) (.agg #[.slice r2.1.1.1 r2.1.1.2.1 r2.1.1.2.2])) tU fun _ =>
 .ret #[.c (.pointer (some r1)) T_api_Tree, .v (.int .i64 r2.2.1), .v (.int .i64 r2.2.2.1)]
theorem d_parse_Expr (a0_b : Option Addr × Nat × Nat) : fnT Tryz.prog Tryz.f22 an_parse_Expr [.slice a0_b.1 a0_b.2.1 a0_b.2.2] = t_parse_Expr a0_b := by kernel_rfl
theorem c_parse_Expr {ε σ β : Type} {I : Ifc ε σ} {t : Ty} {s : Sp ε σ β} {Rel : β → t.den → Own → Fact} {Γ : List Fact} (a0_b : Option Addr × Nat × Nat) (h : Sim Tryz.prog I t Rel noLabel none (t_parse_Expr a0_b) s [] Γ) : MeetsO Tryz.prog I (callS F_parse_Expr #[.slice a0_b.1 a0_b.2.1 a0_b.2.2]) t s Rel Γ :=
  meets_of_sim (args := [.slice a0_b.1 a0_b.2.1 a0_b.2.2]) Tryz.func22 rfl rfl (Nat.le_of_ble_eq_true rfl) (by rw [d_parse_Expr]; exact h)

end
end Go.Proofs.YtjlgcpgjdgeejaaGreatDoor
end
