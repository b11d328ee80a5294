/- A part of the claim: general tools, trees of the program, and what its functions come to (TrC to Scan1). Conditions: as its theorems say. -/
import Derived.Test.YtjlgcpgjdgeejaaGreatDoorClC
import Derived.Laws.Slices
import Derived.Test.YtjlgcpgjdgeejaaGreatDoorProg

/- The trees of functions of the program, each with the proof that it is the tree of the translated code. Conditions: none. By program. -/
section
namespace Go.Proofs.YtjlgcpgjdgeejaaGreatDoor
open Go
set_option linter.unusedVariables false
set_option maxRecDepth 100000
noncomputable section
def an_parser_block : An :=
  .s (.r [none]) (.s (.r [none, some (.c (.agg [.int .i64, .str, .int .i64, .int .i64])), none, some tP, none]) (.s (.r [none, some tU]) (.s (.j [] (.b (.l [] (.s (.s (.r [none, some tB, none]) (.c (.x) (.x))) (.b (.d (.q 0 none (.q 1 none (.q 2 (some tA) (.q 3 none (.q 4 (some tSl) (.q 5 none (.l 6 (some tP) (.l 7 (some tSl) (.l 8 (some tSl) (.q 9 (some tA) (.q 10 none (.l 11 (some tU) (.e))))))))))))))))))) (.s (.r [none, some tU]) (.s (.r [none, none]) (.x))))))
def t_parser_block (a0_p : Addr) : T :=
 .op (callS F_parser_now #[.pointer (some a0_p)]) (.c (.agg [.int .i64, .str, .int .i64, .int .i64])) fun r1 =>
 .op (callS F_syntax_made #[.int .i64 63, .string kE, .int .i64 0, .int .i64 r1.2.2.1, .slice none 0 0]) tP fun r2 =>
 .op (callS F_parser_must #[.pointer (some a0_p), .string k_lc]) tU fun _ =>
 .join 0 [] (
 .loop 1 [] [] fun x4 =>
 .op (callS F_parser_is #[.pointer (some a0_p), .string k_rc]) tB fun r5 =>
 .ite (!r5) (
 .draw <|
 .opq (nilS (.pointer r2)) tA fun r6 =>
 .opq (ldS T_SPsyntax_node (.pointer (some ⟨r6.block, r6.off + 5, none⟩))) tSl fun r7 =>
 .opl (callS F_parser_statement #[.pointer (some a0_p)]) tP fun r8 =>
 .opl (sliceS T_SPsyntax_node 1 #[(0, .pointer r8)]) tSl fun r9 =>
 .opl (appS #[T_SPsyntax_node, T_SPsyntax_node] T_SPsyntax_node #[.slice r7.1 r7.2.1 r7.2.2, .slice r9.1 r9.2.1 r9.2.2]) tSl fun r10 =>
 .opq (nilS (.pointer r2)) tA fun r11 =>
 .op (stS T_SPsyntax_node (.pointer (some ⟨r11.block, r11.off + 5, none⟩)) (.slice r10.1 r10.2.1 r10.2.2)) tU fun _ =>
 .out 1 []) (
 .out 0 [])) fun x13 =>
 .op (callS F_parser_must #[.pointer (some a0_p), .string k_rc]) tU fun _ =>
 .ret #[.v (.pointer r2)]
theorem d_parser_block (a0_p : Addr) : fnT Tryz.prog Tryz.f133 an_parser_block [.pointer (some a0_p)] = t_parser_block a0_p := by kernel_rfl
theorem c_parser_block {ε σ β : Type} {I : Ifc ε σ} {t : Ty} {s : Sp ε σ β} {Rel : β → t.den → Own → Fact} {Γ : List Fact} (a0_p : Addr) (h : Sim Tryz.prog I t Rel noLabel none (t_parser_block a0_p) s [] Γ) : MeetsO Tryz.prog I (callS F_parser_block #[.pointer (some a0_p)]) t s Rel Γ :=
  meets_of_sim (args := [.pointer (some a0_p)]) Tryz.func133 rfl rfl (Nat.le_of_ble_eq_true rfl) (by rw [d_parser_block]; exact h)

def an_parser_round : An :=
  .s (.r [none]) (.s (.r [none, some tU]) (.s (.r [none, some tP, none]) (.s (.r [none, some tU]) (.s (.r [none, none]) (.x)))))
def t_parser_round (a0_p : Addr) : T :=
 .op (callS F_parser_must #[.pointer (some a0_p), .string k_lp]) tU fun _ =>
 .op (callS F_parser_expr #[.pointer (some a0_p)]) tP fun r2 =>
 .op (callS F_parser_must #[.pointer (some a0_p), .string k_rp]) tU fun _ =>
 .ret #[.v (.pointer r2)]
theorem d_parser_round (a0_p : Addr) : fnT Tryz.prog Tryz.f136 an_parser_round [.pointer (some a0_p)] = t_parser_round a0_p := by kernel_rfl
theorem c_parser_round {ε σ β : Type} {I : Ifc ε σ} {t : Ty} {s : Sp ε σ β} {Rel : β → t.den → Own → Fact} {Γ : List Fact} (a0_p : Addr) (h : Sim Tryz.prog I t Rel noLabel none (t_parser_round a0_p) s [] Γ) : MeetsO Tryz.prog I (callS F_parser_round #[.pointer (some a0_p)]) t s Rel Γ :=
  meets_of_sim (args := [.pointer (some a0_p)]) Tryz.func136 rfl rfl (Nat.le_of_ble_eq_true rfl) (by rw [d_parser_round]; exact h)

def an_parser_ended : An :=
  .s (.r [none]) (.s (.r [none, some tP, none]) (.s (.s (.j [(18, .b .bool)] (.r [none, none, none, none, some tB, none, none])) (.c (.r [none, some tP, none]) (.x))) (.s (.r [none, some tU]) (.s (.r [none, none, none, some tSl, some tP, none]) (.x)))))
def t_parser_ended (a0_p : Addr) (a1_kind : Int) (a2_at : Int) (a3_may : Bool) : T :=
 .op (callS F_parser_none #[.pointer (some a0_p)]) tP fun r1 =>
 .join 0 [.b .bool] (
 .ite (!a3_may) (
 .out 0 [.bool true]) (
 .op (callS F_parser_is #[.pointer (some a0_p), .string k_semi]) tB fun r2 =>
 .out 0 [.bool (!r2)])) fun x3 =>
 .ite x3.1 (
 .op (callS F_parser_expr #[.pointer (some a0_p)]) tP fun r4 =>
 .op (callS F_parser_must #[.pointer (some a0_p), .string k_semi]) tU fun _ =>
 .op (sliceS T_SPsyntax_node 1 #[(0, .pointer r4)]) tSl fun r6 =>
 .op (callS F_syntax_made #[.int .i64 a1_kind, .string kE, .int .i64 0, .int .i64 a2_at, .slice r6.1 r6.2.1 r6.2.2]) tP fun r7 =>
 .ret #[.v (.pointer r7)]) (
 .op (callS F_parser_must #[.pointer (some a0_p), .string k_semi]) tU fun _ =>
 .op (sliceS T_SPsyntax_node 1 #[(0, .pointer r1)]) tSl fun r9 =>
 .op (callS F_syntax_made #[.int .i64 a1_kind, .string kE, .int .i64 0, .int .i64 a2_at, .slice r9.1 r9.2.1 r9.2.2]) tP fun r10 =>
 .ret #[.v (.pointer r10)])
theorem d_parser_ended (a0_p : Addr) (a1_kind : Int) (a2_at : Int) (a3_may : Bool) : fnT Tryz.prog Tryz.f138 an_parser_ended [.pointer (some a0_p), .int .i64 a1_kind, .int .i64 a2_at, .bool a3_may] = t_parser_ended a0_p a1_kind a2_at a3_may := by kernel_rfl
theorem c_parser_ended {ε σ β : Type} {I : Ifc ε σ} {t : Ty} {s : Sp ε σ β} {Rel : β → t.den → Own → Fact} {Γ : List Fact} (a0_p : Addr) (a1_kind : Int) (a2_at : Int) (a3_may : Bool) (h : Sim Tryz.prog I t Rel noLabel none (t_parser_ended a0_p a1_kind a2_at a3_may) s [] Γ) : MeetsO Tryz.prog I (callS F_parser_ended #[.pointer (some a0_p), .int .i64 a1_kind, .int .i64 a2_at, .bool a3_may]) t s Rel Γ :=
  meets_of_sim (args := [.pointer (some a0_p), .int .i64 a1_kind, .int .i64 a2_at, .bool a3_may]) Tryz.func138 rfl rfl (Nat.le_of_ble_eq_true rfl) (by rw [d_parser_ended]; exact h)

def an_parser_statement : An :=
  .s (.r [none]) (.s (.r [none, some (.c (.agg [.int .i64, .str, .int .i64, .int .i64])), some tA, some tU]) (.s (.s (.r [none, some tI, none]) (.j [] (.c (.s (.r [none, some (.c (.agg [.int .i64, .str, .int .i64, .int .i64])), some tP, none]) (.s (.r [none, some tB]) (.c (.s (.r [none, none]) (.x)) (.x)))) (.x)))) (.s (.b (.s (.r [none, some tB, none]) (.c (.s (.r [none, some tP, none]) (.x)) (.s (.r [none, some tB, none]) (.c (.s (.r [none, some tI, some tP, none]) (.x)) (.s (.r [none, some tB, none]) (.c (.s (.r [none, some tP, none]) (.x)) (.s (.r [none, some tB, none]) (.c (.s (.r [none, some tP, none]) (.s (.d (.q 0 none (.q 1 (some tI) (.q 2 none (.q 3 none (.l 4 (some tP) (.l 5 (some tSl) (.l 6 (some tP) (.q 7 none (.e)))))))))) (.x))) (.s (.r [none, some tB, none]) (.c (.s (.r [none, none, some tI, some tP, none]) (.x)) (.s (.r [none, some tB, none]) (.c (.s (.r [none, none, some tI, some tP, none]) (.x)) (.s (.r [none, some tB, none]) (.c (.s (.r [none, none, some tI, some tP, none]) (.x)) (.s (.r [none, some tB, none]) (.c (.s (.r [none, some tU]) (.s (.r [none, some tI, some tP, none]) (.x))) (.s (.r [none, some tB, none]) (.c (.s (.r [none, some tU]) (.s (.r [none, some tI, some tP, none]) (.x))) (.s (.r [none, some tB, none]) (.c (.s (.r [none, none, some tI, some tP, none]) (.x)) (.x)))))))))))))))))))))) (.s (.r [none, none, some tI, some tP, none]) (.x)))))
def t_parser_statement (a0_a0 : Addr) : T :=
 .op (callS F_parser_now #[.pointer (some a0_a0)]) (.c (.agg [.int .i64, .str, .int .i64, .int .i64])) fun r1 =>
 .op (allocS T_api_Token) tA fun r2 =>
 .op (stS T_api_Token (.pointer (some r2)) (.agg #[.int .i64 r1.1, .string r1.2.1, .int .i64 r1.2.2.1, .int .i64 r1.2.2.2.1])) tU fun _ =>
 .op (ldS T_int (.pointer (some r2))) tI fun r4 =>
 .join 0 [] (
 .ite ((r4 : Int) == 2) (
 .op (ldS T_api_Token (.pointer (some r2))) (.c (.agg [.int .i64, .str, .int .i64, .int .i64])) fun r5 =>
 .op (callS F_parser_declaration #[.pointer (some a0_a0), .agg #[.int .i64 r5.1, .string r5.2.1, .int .i64 r5.2.2.1, .int .i64 r5.2.2.2.1]]) tP fun r6 =>
 .op (binS .neq T_Psyntax_node (.pointer r6) (.pointer none)) tB fun r7 =>
 .ite r7 (
 .ret #[.v (.pointer r6)]) (
 .out 0 [])) (
 .out 0 [])) fun x8 =>
 .op (callS F_parser_is #[.pointer (some a0_a0), .string k_lc]) tB fun r9 =>
 .ite r9 (
 .op (callS F_parser_block #[.pointer (some a0_a0)]) tP fun r10 =>
 .ret #[.v (.pointer r10)]) (
 .op (callS F_parser_take #[.pointer (some a0_a0), .string k_semi]) tB fun r11 =>
 .ite r11 (
 .op (ldS T_int (.pointer (some ⟨r2.block, r2.off + 2, none⟩))) tI fun r12 =>
 .op (callS F_syntax_made #[.int .i64 65, .string kE, .int .i64 0, .int .i64 r12, .slice none 0 0]) tP fun r13 =>
 .ret #[.v (.pointer r13)]) (
 .op (callS F_parser_is #[.pointer (some a0_a0), .string kif]) tB fun r14 =>
 .ite r14 (
 .op (callS F_parser_branch #[.pointer (some a0_a0)]) tP fun r15 =>
 .ret #[.v (.pointer r15)]) (
 .op (callS F_parser_take #[.pointer (some a0_a0), .string kwhile]) tB fun r16 =>
 .ite r16 (
 .op (callS F_parser_round #[.pointer (some a0_a0)]) tP fun r17 =>
 .draw <|
 .opq (ldS T_int (.pointer (some ⟨r2.block, r2.off + 2, none⟩))) tI fun r18 =>
 .opl (callS F_parser_block #[.pointer (some a0_a0)]) tP fun r19 =>
 .opl (sliceS T_SPsyntax_node 2 #[(0, .pointer r17), (1, .pointer r19)]) tSl fun r20 =>
 .opl (callS F_syntax_made #[.int .i64 54, .string kE, .int .i64 0, .int .i64 r18, .slice r20.1 r20.2.1 r20.2.2]) tP fun r21 =>
 .ret #[.v (.pointer r21)]) (
 .op (callS F_parser_take #[.pointer (some a0_a0), .string kfor]) tB fun r22 =>
 .ite r22 (
 .op (ldS T_int (.pointer (some ⟨r2.block, r2.off + 2, none⟩))) tI fun r23 =>
 .op (callS F_parser_loop #[.pointer (some a0_a0), .int .i64 r23]) tP fun r24 =>
 .ret #[.v (.pointer r24)]) (
 .op (callS F_parser_take #[.pointer (some a0_a0), .string kreturn]) tB fun r25 =>
 .ite r25 (
 .op (ldS T_int (.pointer (some ⟨r2.block, r2.off + 2, none⟩))) tI fun r26 =>
 .op (callS F_parser_ended #[.pointer (some a0_a0), .int .i64 57, .int .i64 r26, .bool true]) tP fun r27 =>
 .ret #[.v (.pointer r27)]) (
 .op (callS F_parser_take #[.pointer (some a0_a0), .string kthrow]) tB fun r28 =>
 .ite r28 (
 .op (ldS T_int (.pointer (some ⟨r2.block, r2.off + 2, none⟩))) tI fun r29 =>
 .op (callS F_parser_ended #[.pointer (some a0_a0), .int .i64 60, .int .i64 r29, .bool false]) tP fun r30 =>
 .ret #[.v (.pointer r30)]) (
 .op (callS F_parser_take #[.pointer (some a0_a0), .string kbreak]) tB fun r31 =>
 .ite r31 (
 .op (callS F_parser_must #[.pointer (some a0_a0), .string k_semi]) tU fun _ =>
 .op (ldS T_int (.pointer (some ⟨r2.block, r2.off + 2, none⟩))) tI fun r33 =>
 .op (callS F_syntax_made #[.int .i64 58, .string kE, .int .i64 0, .int .i64 r33, .slice none 0 0]) tP fun r34 =>
 .ret #[.v (.pointer r34)]) (
 .op (callS F_parser_take #[.pointer (some a0_a0), .string kcontinue]) tB fun r35 =>
 .ite r35 (
 .op (callS F_parser_must #[.pointer (some a0_a0), .string k_semi]) tU fun _ =>
 .op (ldS T_int (.pointer (some ⟨r2.block, r2.off + 2, none⟩))) tI fun r37 =>
 .op (callS F_syntax_made #[.int .i64 59, .string kE, .int .i64 0, .int .i64 r37, .slice none 0 0]) tP fun r38 =>
 .ret #[.v (.pointer r38)]) (
 .op (callS F_parser_take #[.pointer (some a0_a0), .string ktry]) tB fun r39 =>
 .ite r39 (
 .op (ldS T_int (.pointer (some ⟨r2.block, r2.off + 2, none⟩))) tI fun r40 =>
 .op (callS F_parser_try #[.pointer (some a0_a0), .int .i64 r40]) tP fun r41 =>
 .ret #[.v (.pointer r41)]) (
 .op (ldS T_int (.pointer (some ⟨r2.block, r2.off + 2, none⟩))) tI fun r42 =>
 .op (callS F_parser_ended #[.pointer (some a0_a0), .int .i64 64, .int .i64 r42, .bool false]) tP fun r43 =>
 .ret #[.v (.pointer r43)]))))))))))
theorem d_parser_statement (a0_a0 : Addr) : fnT Tryz.prog Tryz.f86 an_parser_statement [.pointer (some a0_a0)] = t_parser_statement a0_a0 := by kernel_rfl
theorem c_parser_statement {ε σ β : Type} {I : Ifc ε σ} {t : Ty} {s : Sp ε σ β} {Rel : β → t.den → Own → Fact} {Γ : List Fact} (a0_a0 : Addr) (h : Sim Tryz.prog I t Rel noLabel none (t_parser_statement a0_a0) s [] Γ) : MeetsO Tryz.prog I (callS F_parser_statement #[.pointer (some a0_a0)]) t s Rel Γ :=
  meets_of_sim (args := [.pointer (some a0_a0)]) Tryz.func86 rfl rfl (Nat.le_of_ble_eq_true rfl) (by rw [d_parser_statement]; exact h)

def an_parser_branch : An :=
  .s (.r [none]) (.s (.r [none, some (.c (.agg [.int .i64, .str, .int .i64, .int .i64])), none, none]) (.s (.r [none, some tU]) (.s (.r [none, some tP, none]) (.s (.r [none, some tP, none]) (.s (.r [none, some tP, none]) (.s (.s (.r [none, some tB]) (.c (.s (.r [none, some tB]) (.c (.r [none, some tP, none]) (.r [none, some tP, none]))) (.x))) (.s (.r [none, none, none, none, some tSl, some tP, none]) (.x))))))))
def t_parser_branch (a0_p : Addr) : T :=
 .op (callS F_parser_now #[.pointer (some a0_p)]) (.c (.agg [.int .i64, .str, .int .i64, .int .i64])) fun r1 =>
 .op (callS F_parser_must #[.pointer (some a0_p), .string kif]) tU fun _ =>
 .op (callS F_parser_round #[.pointer (some a0_p)]) tP fun r3 =>
 .op (callS F_parser_block #[.pointer (some a0_p)]) tP fun r4 =>
 .op (callS F_parser_none #[.pointer (some a0_p)]) tP fun r5 =>
 .op (callS F_parser_take #[.pointer (some a0_p), .string kelse]) tB fun r6 =>
 .ite r6 (
 .op (callS F_parser_is #[.pointer (some a0_p), .string kif]) tB fun r7 =>
 .ite r7 (
 .op (callS F_parser_branch #[.pointer (some a0_p)]) tP fun r8 =>
 .op (sliceS T_SPsyntax_node 3 #[(0, .pointer r3), (1, .pointer r4), (2, .pointer r8)]) tSl fun r9 =>
 .op (callS F_syntax_made #[.int .i64 53, .string kE, .int .i64 0, .int .i64 r1.2.2.1, .slice r9.1 r9.2.1 r9.2.2]) tP fun r10 =>
 .ret #[.v (.pointer r10)]) (
 .op (callS F_parser_block #[.pointer (some a0_p)]) tP fun r11 =>
 .op (sliceS T_SPsyntax_node 3 #[(0, .pointer r3), (1, .pointer r4), (2, .pointer r11)]) tSl fun r12 =>
 .op (callS F_syntax_made #[.int .i64 53, .string kE, .int .i64 0, .int .i64 r1.2.2.1, .slice r12.1 r12.2.1 r12.2.2]) tP fun r13 =>
 .ret #[.v (.pointer r13)])) (
 .op (sliceS T_SPsyntax_node 3 #[(0, .pointer r3), (1, .pointer r4), (2, .pointer r5)]) tSl fun r14 =>
 .op (callS F_syntax_made #[.int .i64 53, .string kE, .int .i64 0, .int .i64 r1.2.2.1, .slice r14.1 r14.2.1 r14.2.2]) tP fun r15 =>
 .ret #[.v (.pointer r15)])
theorem d_parser_branch (a0_p : Addr) : fnT Tryz.prog Tryz.f135 an_parser_branch [.pointer (some a0_p)] = t_parser_branch a0_p := by kernel_rfl
theorem c_parser_branch {ε σ β : Type} {I : Ifc ε σ} {t : Ty} {s : Sp ε σ β} {Rel : β → t.den → Own → Fact} {Γ : List Fact} (a0_p : Addr) (h : Sim Tryz.prog I t Rel noLabel none (t_parser_branch a0_p) s [] Γ) : MeetsO Tryz.prog I (callS F_parser_branch #[.pointer (some a0_p)]) t s Rel Γ :=
  meets_of_sim (args := [.pointer (some a0_p)]) Tryz.func135 rfl rfl (Nat.le_of_ble_eq_true rfl) (by rw [d_parser_branch]; exact h)

def an_parser_loop : An :=
  .s (.r [some tA, none]) (.s (.r [some tP, some tU]) (.s (.s (.j [(31, .b .bool)] (.r [some tP, some tB, none, some tP, some tB, none, none, some tP, some (.c (.agg [.int .i64, .str, .int .i64, .int .i64])), none, none, none, none, some tP, some (.c (.agg [.int .i64, .str, .int .i64, .int .i64])), some tB, none])) (.c (.s (.r [none]) (.s (.s (.r [some tP, some (.c (.agg [.int .i64, .str, .int .i64, .int .i64])), none, none]) (.j [(5, .b (.int .i64))] (.c (.r [none]) (.x)))) (.s (.r [some tP, some tS, none]) (.s (.r [some tP, some tU]) (.s (.r [some tP, some tP, none]) (.s (.r [some tP, some tU]) (.s (.r [none, none, none, none, some tP, some tP, some tSl, some tP, none]) (.x)))))))) (.x))) (.s (.r [some tP, some tP, none]) (.s (.s (.r [some tP, some (.c (.agg [.int .i64, .str, .int .i64, .int .i64])), none, none]) (.s (.r [some tP, some tB]) (.j [(8, .b .ptr)] (.c (.r [some tP, none, some tP, none]) (.x))))) (.s (.r [some tP, some tU]) (.s (.r [none, none]) (.s (.r [none, some tP, none]) (.s (.r [none, some tP, none]) (.s (.r [none, none, none, none, some tP, some tP, some tSl, some tP, none]) (.x))))))))))
def t_parser_loop (a0_a0 : Addr) (a1_a1 : Int) : T :=
 .op (boxS T_Psyntax_parser (.pointer (some a0_a0))) tA fun r1 =>
 .op (ldS T_Psyntax_parser (.pointer (some r1))) tP fun r2 =>
 .op (callS F_parser_must #[.pointer r2, .string k_lp]) tU fun _ =>
 .join 0 [.b .bool] (
 .op (ldS T_Psyntax_parser (.pointer (some r1))) tP fun r4 =>
 .op (callS F_parser_is #[.pointer r4, .string klet]) tB fun r5 =>
 .ite r5 (
 .op (ldS T_Psyntax_parser (.pointer (some r1))) tP fun r6 =>
 .op (callS F_parser_then #[.pointer r6, .int .i64 1]) (.c (.agg [.int .i64, .str, .int .i64, .int .i64])) fun r7 =>
 .ite ((r7.1 : Int) == 1) (
 .op (ldS T_Psyntax_parser (.pointer (some r1))) tP fun r8 =>
 .op (callS F_parser_then #[.pointer r8, .int .i64 2]) (.c (.agg [.int .i64, .str, .int .i64, .int .i64])) fun r9 =>
 .op (callS F_syntax_says #[.agg #[.int .i64 r9.1, .string r9.2.1, .int .i64 r9.2.2.1, .int .i64 r9.2.2.2.1], .string kof]) tB fun r10 =>
 .out 0 [.bool r10]) (
 .out 0 [.bool false])) (
 .op (ldS T_Psyntax_parser (.pointer (some r1))) tP fun r11 =>
 .op (callS F_parser_is #[.pointer r11, .string kconst]) tB fun r12 =>
 .ite r12 (
 .op (ldS T_Psyntax_parser (.pointer (some r1))) tP fun r13 =>
 .op (callS F_parser_then #[.pointer r13, .int .i64 1]) (.c (.agg [.int .i64, .str, .int .i64, .int .i64])) fun r14 =>
 .ite ((r14.1 : Int) == 1) (
 .op (ldS T_Psyntax_parser (.pointer (some r1))) tP fun r15 =>
 .op (callS F_parser_then #[.pointer r15, .int .i64 2]) (.c (.agg [.int .i64, .str, .int .i64, .int .i64])) fun r16 =>
 .op (callS F_syntax_says #[.agg #[.int .i64 r16.1, .string r16.2.1, .int .i64 r16.2.2.1, .int .i64 r16.2.2.2.1], .string kof]) tB fun r17 =>
 .out 0 [.bool r17]) (
 .out 0 [.bool false])) (
 .out 0 [.bool false]))) fun x18 =>
 .ite x18.1 (
 .op (ldS T_Psyntax_parser (.pointer (some r1))) tP fun r19 =>
 .op (callS F_parser_next #[.pointer r19]) (.c (.agg [.int .i64, .str, .int .i64, .int .i64])) fun r20 =>
 .join 0 [.b (.int .i64)] (
 .ite (r20.2.1.toList == kconst.toList) (
 .out 0 [.int .i64 1]) (
 .out 0 [.int .i64 0])) fun x21 =>
 .op (ldS T_Psyntax_parser (.pointer (some r1))) tP fun r22 =>
 .op (callS F_parser_name #[.pointer r22]) tS fun r23 =>
 .op (ldS T_Psyntax_parser (.pointer (some r1))) tP fun r24 =>
 .op (callS F_parser_must #[.pointer r24, .string kof]) tU fun _ =>
 .op (ldS T_Psyntax_parser (.pointer (some r1))) tP fun r26 =>
 .op (callS F_parser_expr #[.pointer r26]) tP fun r27 =>
 .op (ldS T_Psyntax_parser (.pointer (some r1))) tP fun r28 =>
 .op (callS F_parser_must #[.pointer r28, .string k_rp]) tU fun _ =>
 .op (ldS T_Psyntax_parser (.pointer (some r1))) tP fun r30 =>
 .op (callS F_parser_block #[.pointer r30]) tP fun r31 =>
 .op (sliceS T_SPsyntax_node 2 #[(0, .pointer r27), (1, .pointer r31)]) tSl fun r32 =>
 .op (callS F_syntax_made #[.int .i64 56, .string r23, .int .i64 x21.1, .int .i64 a1_a1, .slice r32.1 r32.2.1 r32.2.2]) tP fun r33 =>
 .ret #[.v (.pointer r33)]) (
 .op (ldS T_Psyntax_parser (.pointer (some r1))) tP fun r34 =>
 .op (callS F_parser_none #[.pointer r34]) tP fun r35 =>
 .op (ldS T_Psyntax_parser (.pointer (some r1))) tP fun r36 =>
 .op (callS F_parser_now #[.pointer r36]) (.c (.agg [.int .i64, .str, .int .i64, .int .i64])) fun r37 =>
 .op (ldS T_Psyntax_parser (.pointer (some r1))) tP fun r38 =>
 .op (callS F_parser_take #[.pointer r38, .string klet]) tB fun r39 =>
 .join 0 [.b .ptr] (
 .ite r39 (
 .op (ldS T_Psyntax_parser (.pointer (some r1))) tP fun r40 =>
 .op (callS F_parser_variable #[.pointer r40, .int .i64 0, .int .i64 r37.2.2.1]) tP fun r41 =>
 .out 0 [.pointer r41]) (
 .out 0 [.pointer r35])) fun x42 =>
 .op (ldS T_Psyntax_parser (.pointer (some r1))) tP fun r43 =>
 .op (callS F_parser_must #[.pointer r43, .string k_semi]) tU fun _ =>
 .op (callvS (.func (.func F_parser_loop_1) #[] #[.pointer (some r1)]) #[.string k_semi]) tP fun r45 =>
 .op (callvS (.func (.func F_parser_loop_1) #[] #[.pointer (some r1)]) #[.string k_rp]) tP fun r46 =>
 .op (ldS T_Psyntax_parser (.pointer (some r1))) tP fun r47 =>
 .op (callS F_parser_block #[.pointer r47]) tP fun r48 =>
 .op (sliceS T_SPsyntax_node 4 #[(0, .pointer x42.1), (1, .pointer r45), (2, .pointer r46), (3, .pointer r48)]) tSl fun r49 =>
 .op (callS F_syntax_made #[.int .i64 55, .string kE, .int .i64 0, .int .i64 a1_a1, .slice r49.1 r49.2.1 r49.2.2]) tP fun r50 =>
 .ret #[.v (.pointer r50)])
theorem d_parser_loop (a0_a0 : Addr) (a1_a1 : Int) : fnT Tryz.prog Tryz.f137 an_parser_loop [.pointer (some a0_a0), .int .i64 a1_a1] = t_parser_loop a0_a0 a1_a1 := by kernel_rfl
theorem c_parser_loop {ε σ β : Type} {I : Ifc ε σ} {t : Ty} {s : Sp ε σ β} {Rel : β → t.den → Own → Fact} {Γ : List Fact} (a0_a0 : Addr) (a1_a1 : Int) (h : Sim Tryz.prog I t Rel noLabel none (t_parser_loop a0_a0 a1_a1) s [] Γ) : MeetsO Tryz.prog I (callS F_parser_loop #[.pointer (some a0_a0), .int .i64 a1_a1]) t s Rel Γ :=
  meets_of_sim (args := [.pointer (some a0_a0), .int .i64 a1_a1]) Tryz.func137 rfl rfl (Nat.le_of_ble_eq_true rfl) (by rw [d_parser_loop]; exact h)

def an_parser_loop_1 : An :=
  .s (.r [none]) (.s (.r [some tP, some tP, none]) (.s (.s (.r [some tP, none, some tB, none]) (.c (.r [some tP, some tP, none]) (.x))) (.s (.r [some tP, none, some tU]) (.s (.r [none, none]) (.x)))))
def t_parser_loop_1 (a0_end : ByteArray) (a1_a1 : Addr) : T :=
 .op (ldS T_Psyntax_parser (.pointer (some a1_a1))) tP fun r1 =>
 .op (callS F_parser_none #[.pointer r1]) tP fun r2 =>
 .op (ldS T_Psyntax_parser (.pointer (some a1_a1))) tP fun r3 =>
 .op (callS F_parser_is #[.pointer r3, .string a0_end]) tB fun r4 =>
 .ite (!r4) (
 .op (ldS T_Psyntax_parser (.pointer (some a1_a1))) tP fun r5 =>
 .op (callS F_parser_expr #[.pointer r5]) tP fun r6 =>
 .op (ldS T_Psyntax_parser (.pointer (some a1_a1))) tP fun r7 =>
 .op (callS F_parser_must #[.pointer r7, .string a0_end]) tU fun _ =>
 .ret #[.v (.pointer r6)]) (
 .op (ldS T_Psyntax_parser (.pointer (some a1_a1))) tP fun r9 =>
 .op (callS F_parser_must #[.pointer r9, .string a0_end]) tU fun _ =>
 .ret #[.v (.pointer r2)])
theorem d_parser_loop_1 (a0_end : ByteArray) (a1_a1 : Addr) : fnT Tryz.prog Tryz.f189 an_parser_loop_1 [.string a0_end, .pointer (some a1_a1)] = t_parser_loop_1 a0_end a1_a1 := by kernel_rfl
theorem c_parser_loop_1 {ε σ β : Type} {I : Ifc ε σ} {t : Ty} {s : Sp ε σ β} {Rel : β → t.den → Own → Fact} {Γ : List Fact} (a0_end : ByteArray) (a1_a1 : Addr) (h : Sim Tryz.prog I t Rel noLabel none (t_parser_loop_1 a0_end a1_a1) s [] Γ) : MeetsO Tryz.prog I (callS F_parser_loop_1 #[.string a0_end, .pointer (some a1_a1)]) t s Rel Γ :=
  meets_of_sim (args := [.string a0_end, .pointer (some a1_a1)]) Tryz.func189 rfl rfl (Nat.le_of_ble_eq_true rfl) (by rw [d_parser_loop_1]; exact h)

def an_parser_variable : An :=
  .s (.r [none]) (.s (.r [none, some tS, none]) (.s (.r [none, some tP, none]) (.s (.r [none, some tU]) (.s (.r [none, none, none, none, none, some tP, some tSl, some tP, none]) (.x)))))
def t_parser_variable (a0_p : Addr) (a1_n : Int) (a2_at : Int) : T :=
 .op (callS F_parser_name #[.pointer (some a0_p)]) tS fun r1 =>
 .op (callS F_parser_optional #[.pointer (some a0_p)]) tP fun r2 =>
 .op (callS F_parser_must #[.pointer (some a0_p), .string k_eq]) tU fun _ =>
 .op (callS F_parser_expr #[.pointer (some a0_p)]) tP fun r4 =>
 .op (sliceS T_SPsyntax_node 2 #[(0, .pointer r2), (1, .pointer r4)]) tSl fun r5 =>
 .op (callS F_syntax_made #[.int .i64 40, .string r1, .int .i64 a1_n, .int .i64 a2_at, .slice r5.1 r5.2.1 r5.2.2]) tP fun r6 =>
 .ret #[.v (.pointer r6)]
theorem d_parser_variable (a0_p : Addr) (a1_n : Int) (a2_at : Int) : fnT Tryz.prog Tryz.f180 an_parser_variable [.pointer (some a0_p), .int .i64 a1_n, .int .i64 a2_at] = t_parser_variable a0_p a1_n a2_at := by kernel_rfl
theorem c_parser_variable {ε σ β : Type} {I : Ifc ε σ} {t : Ty} {s : Sp ε σ β} {Rel : β → t.den → Own → Fact} {Γ : List Fact} (a0_p : Addr) (a1_n : Int) (a2_at : Int) (h : Sim Tryz.prog I t Rel noLabel none (t_parser_variable a0_p a1_n a2_at) s [] Γ) : MeetsO Tryz.prog I (callS F_parser_variable #[.pointer (some a0_p), .int .i64 a1_n, .int .i64 a2_at]) t s Rel Γ :=
  meets_of_sim (args := [.pointer (some a0_p), .int .i64 a1_n, .int .i64 a2_at]) Tryz.func180 rfl rfl (Nat.le_of_ble_eq_true rfl) (by rw [d_parser_variable]; exact h)

def an_parser_try : An :=
  .s (.r [none]) (.s (.r [none, some tP, none]) (.s (.r [none, some tP, none]) (.s (.s (.r [none, some (.c (.agg [.int .i64, .str, .int .i64, .int .i64])), none, none]) (.s (.r [none, some tB]) (.j [(6, .b .ptr)] (.c (.s (.r [none, some tU]) (.s (.r [none, some tS, none]) (.s (.r [none, some tU]) (.r [none, none, none, some tP, some tSl, some tP, none])))) (.x))))) (.s (.r [none, some tP, none]) (.s (.s (.r [none, some tB]) (.j [(9, .b .ptr)] (.c (.r [none, some tP, none]) (.x)))) (.s (.s (.j [(50, .b .bool)] (.r [none, some tA, none, none, some tI, none, none, none, some tA, none, none, some tI, none, none])) (.c (.r [none, some tU]) (.x))) (.s (.r [none, none, none, none, some tSl, some tP, none]) (.x))))))))
def t_parser_try (a0_p : Addr) (a1_at : Int) : T :=
 .op (callS F_parser_block #[.pointer (some a0_p)]) tP fun r1 =>
 .op (callS F_parser_none #[.pointer (some a0_p)]) tP fun r2 =>
 .op (callS F_parser_now #[.pointer (some a0_p)]) (.c (.agg [.int .i64, .str, .int .i64, .int .i64])) fun r3 =>
 .op (callS F_parser_take #[.pointer (some a0_p), .string kcatch]) tB fun r4 =>
 .join 0 [.b .ptr] (
 .ite r4 (
 .op (callS F_parser_must #[.pointer (some a0_p), .string k_lp]) tU fun _ =>
 .op (callS F_parser_name #[.pointer (some a0_p)]) tS fun r6 =>
 .op (callS F_parser_must #[.pointer (some a0_p), .string k_rp]) tU fun _ =>
 .op (callS F_parser_block #[.pointer (some a0_p)]) tP fun r8 =>
 .op (sliceS T_SPsyntax_node 1 #[(0, .pointer r8)]) tSl fun r9 =>
 .op (callS F_syntax_made #[.int .i64 62, .string r6, .int .i64 0, .int .i64 r3.2.2.1, .slice r9.1 r9.2.1 r9.2.2]) tP fun r10 =>
 .out 0 [.pointer r10]) (
 .out 0 [.pointer r2])) fun x11 =>
 .op (callS F_parser_none #[.pointer (some a0_p)]) tP fun r12 =>
 .op (callS F_parser_take #[.pointer (some a0_p), .string kfinally]) tB fun r13 =>
 .join 0 [.b .ptr] (
 .ite r13 (
 .op (callS F_parser_block #[.pointer (some a0_p)]) tP fun r14 =>
 .out 0 [.pointer r14]) (
 .out 0 [.pointer r12])) fun x15 =>
 .join 0 [.b .bool] (
 .op (nilS (.pointer x11.1)) tA fun r16 =>
 .op (ldS T_int (.pointer (some r16))) tI fun r17 =>
 .ite ((r17 : Int) == 1) (
 .op (nilS (.pointer x15.1)) tA fun r18 =>
 .op (ldS T_int (.pointer (some r18))) tI fun r19 =>
 .out 0 [.bool ((r19 : Int) == 1)]) (
 .out 0 [.bool false])) fun x20 =>
 .ite x20.1 (
 .op (callS F_parser_fail #[.pointer (some a0_p)]) tU fun _ =>
 .op (sliceS T_SPsyntax_node 3 #[(0, .pointer r1), (1, .pointer x11.1), (2, .pointer x15.1)]) tSl fun r22 =>
 .op (callS F_syntax_made #[.int .i64 61, .string kE, .int .i64 0, .int .i64 a1_at, .slice r22.1 r22.2.1 r22.2.2]) tP fun r23 =>
 .ret #[.v (.pointer r23)]) (
 .op (sliceS T_SPsyntax_node 3 #[(0, .pointer r1), (1, .pointer x11.1), (2, .pointer x15.1)]) tSl fun r24 =>
 .op (callS F_syntax_made #[.int .i64 61, .string kE, .int .i64 0, .int .i64 a1_at, .slice r24.1 r24.2.1 r24.2.2]) tP fun r25 =>
 .ret #[.v (.pointer r25)])
theorem d_parser_try (a0_p : Addr) (a1_at : Int) : fnT Tryz.prog Tryz.f140 an_parser_try [.pointer (some a0_p), .int .i64 a1_at] = t_parser_try a0_p a1_at := by kernel_rfl
theorem c_parser_try {ε σ β : Type} {I : Ifc ε σ} {t : Ty} {s : Sp ε σ β} {Rel : β → t.den → Own → Fact} {Γ : List Fact} (a0_p : Addr) (a1_at : Int) (h : Sim Tryz.prog I t Rel noLabel none (t_parser_try a0_p a1_at) s [] Γ) : MeetsO Tryz.prog I (callS F_parser_try #[.pointer (some a0_p), .int .i64 a1_at]) t s Rel Γ :=
  meets_of_sim (args := [.pointer (some a0_p), .int .i64 a1_at]) Tryz.func140 rfl rfl (Nat.le_of_ble_eq_true rfl) (by rw [d_parser_try]; exact h)

def an_parser_declaration : An :=
  .s (.r [some tA, none]) (.s (.b (.s (.j [(13, .b .bool)] (.r [none, some tB, none, none, some (.c (.agg [.int .i64, .str, .int .i64, .int .i64])), some tB, none, none])) (.c (.s (.r [none, some (.c (.agg [.int .i64, .str, .int .i64, .int .i64]))]) (.s (.r [none, none, some tI, some tP, none]) (.x))) (.s (.r [none, some tB, none]) (.c (.s (.r [none, none, some tI, some tP, none]) (.s (.r [none, some tU]) (.s (.r [none, none]) (.x)))) (.s (.r [none, some tB, none]) (.c (.s (.r [none, none, some tI, some tP, none]) (.s (.r [none, some tU]) (.s (.r [none, none]) (.x)))) (.s (.r [none, some tB, none]) (.c (.s (.r [none, none, some tI, some tP, none]) (.x)) (.s (.r [none, some tB, none]) (.c (.s (.r [none, none, some tI, some tP, none]) (.x)) (.s (.r [none, some tB, none]) (.c (.s (.r [none, none, some tI, some tP, none]) (.x)) (.s (.r [none, some tB, none]) (.c (.s (.r [none, none, some tI, some tP, none]) (.x)) (.s (.r [none, some tB, none]) (.c (.s (.r [none, some tS, none]) (.s (.r [none, some tP, none]) (.s (.r [none, some tP, none]) (.s (.d (.q 0 none (.q 1 none (.q 2 (some tI) (.q 3 none (.q 4 none (.q 5 none (.l 6 (some tP) (.l 7 (some tSl) (.l 8 (some tP) (.q 9 none (.e)))))))))))) (.x))))) (.s (.r [none, some tB, none]) (.c (.s (.r [none, some tS, none]) (.s (.r [none, some tP, none]) (.s (.r [none, some tU]) (.s (.r [none, some tP, none]) (.s (.r [none, some tU]) (.s (.r [none, none, some tI, none, none, some tSl, some tP, none]) (.x))))))) (.x)))))))))))))))))))) (.s (.r [none]) (.x)))
def t_parser_declaration (a0_a0 : Addr) (a1_a1 : HB [.int .i64, .str, .int .i64, .int .i64]) : T :=
 .op (boxS T_api_Token (.agg #[.int .i64 a1_a1.1, .string a1_a1.2.1, .int .i64 a1_a1.2.2.1, .int .i64 a1_a1.2.2.2.1])) tA fun r1 =>
 .join 0 [.b .bool] (
 .op (callS F_parser_is #[.pointer (some a0_a0), .string kconst]) tB fun r2 =>
 .ite r2 (
 .op (callS F_parser_then #[.pointer (some a0_a0), .int .i64 1]) (.c (.agg [.int .i64, .str, .int .i64, .int .i64])) fun r3 =>
 .op (callS F_syntax_says #[.agg #[.int .i64 r3.1, .string r3.2.1, .int .i64 r3.2.2.1, .int .i64 r3.2.2.2.1], .string kenum]) tB fun r4 =>
 .out 0 [.bool r4]) (
 .out 0 [.bool false])) fun x5 =>
 .ite x5.1 (
 .op (callS F_parser_next #[.pointer (some a0_a0)]) (.c (.agg [.int .i64, .str, .int .i64, .int .i64])) fun r6 =>
 .op (ldS T_int (.pointer (some ⟨r1.block, r1.off + 2, none⟩))) tI fun r7 =>
 .op (callS F_parser_enum #[.pointer (some a0_a0), .int .i64 1, .int .i64 r7]) tP fun r8 =>
 .ret #[.v (.pointer r8)]) (
 .op (callS F_parser_take #[.pointer (some a0_a0), .string klet]) tB fun r9 =>
 .ite r9 (
 .op (ldS T_int (.pointer (some ⟨r1.block, r1.off + 2, none⟩))) tI fun r10 =>
 .op (callS F_parser_variable #[.pointer (some a0_a0), .int .i64 0, .int .i64 r10]) tP fun r11 =>
 .op (callS F_parser_must #[.pointer (some a0_a0), .string k_semi]) tU fun _ =>
 .ret #[.v (.pointer r11)]) (
 .op (callS F_parser_take #[.pointer (some a0_a0), .string kconst]) tB fun r13 =>
 .ite r13 (
 .op (ldS T_int (.pointer (some ⟨r1.block, r1.off + 2, none⟩))) tI fun r14 =>
 .op (callS F_parser_variable #[.pointer (some a0_a0), .int .i64 1, .int .i64 r14]) tP fun r15 =>
 .op (callS F_parser_must #[.pointer (some a0_a0), .string k_semi]) tU fun _ =>
 .ret #[.v (.pointer r15)]) (
 .op (callS F_parser_take #[.pointer (some a0_a0), .string kfunction]) tB fun r17 =>
 .ite r17 (
 .op (ldS T_int (.pointer (some ⟨r1.block, r1.off + 2, none⟩))) tI fun r18 =>
 .op (callS F_parser_function #[.pointer (some a0_a0), .int .i64 41, .int .i64 r18]) tP fun r19 =>
 .ret #[.v (.pointer r19)]) (
 .op (callS F_parser_take #[.pointer (some a0_a0), .string kclass]) tB fun r20 =>
 .ite r20 (
 .op (ldS T_int (.pointer (some ⟨r1.block, r1.off + 2, none⟩))) tI fun r21 =>
 .op (callS F_parser_class #[.pointer (some a0_a0), .int .i64 r21]) tP fun r22 =>
 .ret #[.v (.pointer r22)]) (
 .op (callS F_parser_is #[.pointer (some a0_a0), .string kenum]) tB fun r23 =>
 .ite r23 (
 .op (ldS T_int (.pointer (some ⟨r1.block, r1.off + 2, none⟩))) tI fun r24 =>
 .op (callS F_parser_enum #[.pointer (some a0_a0), .int .i64 0, .int .i64 r24]) tP fun r25 =>
 .ret #[.v (.pointer r25)]) (
 .op (callS F_parser_take #[.pointer (some a0_a0), .string knamespace]) tB fun r26 =>
 .ite r26 (
 .op (ldS T_int (.pointer (some ⟨r1.block, r1.off + 2, none⟩))) tI fun r27 =>
 .op (callS F_parser_namespace #[.pointer (some a0_a0), .int .i64 r27]) tP fun r28 =>
 .ret #[.v (.pointer r28)]) (
 .op (callS F_parser_take #[.pointer (some a0_a0), .string kinterface]) tB fun r29 =>
 .ite r29 (
 .op (callS F_parser_name #[.pointer (some a0_a0)]) tS fun r30 =>
 .op (callS F_parser_vars #[.pointer (some a0_a0)]) tP fun r31 =>
 .op (callS F_parser_refs #[.pointer (some a0_a0), .string kextends]) tP fun r32 =>
 .draw <|
 .opq (ldS T_int (.pointer (some ⟨r1.block, r1.off + 2, none⟩))) tI fun r33 =>
 .opl (callS F_parser_objectType #[.pointer (some a0_a0)]) tP fun r34 =>
 .opl (sliceS T_SPsyntax_node 3 #[(0, .pointer r31), (1, .pointer r32), (2, .pointer r34)]) tSl fun r35 =>
 .opl (callS F_syntax_made #[.int .i64 51, .string r30, .int .i64 0, .int .i64 r33, .slice r35.1 r35.2.1 r35.2.2]) tP fun r36 =>
 .ret #[.v (.pointer r36)]) (
 .op (callS F_parser_take #[.pointer (some a0_a0), .string ktype]) tB fun r37 =>
 .ite r37 (
 .op (callS F_parser_name #[.pointer (some a0_a0)]) tS fun r38 =>
 .op (callS F_parser_vars #[.pointer (some a0_a0)]) tP fun r39 =>
 .op (callS F_parser_must #[.pointer (some a0_a0), .string k_eq]) tU fun _ =>
 .op (callS F_parser_typed #[.pointer (some a0_a0)]) tP fun r41 =>
 .op (callS F_parser_must #[.pointer (some a0_a0), .string k_semi]) tU fun _ =>
 .op (ldS T_int (.pointer (some ⟨r1.block, r1.off + 2, none⟩))) tI fun r43 =>
 .op (sliceS T_SPsyntax_node 2 #[(0, .pointer r39), (1, .pointer r41)]) tSl fun r44 =>
 .op (callS F_syntax_made #[.int .i64 52, .string r38, .int .i64 0, .int .i64 r43, .slice r44.1 r44.2.1 r44.2.2]) tP fun r45 =>
 .ret #[.v (.pointer r45)]) (
 .ret #[.v (.pointer none)])))))))))
theorem d_parser_declaration (a0_a0 : Addr) (a1_a1 : HB [.int .i64, .str, .int .i64, .int .i64]) : fnT Tryz.prog Tryz.f131 an_parser_declaration [.pointer (some a0_a0), .agg #[.int .i64 a1_a1.1, .string a1_a1.2.1, .int .i64 a1_a1.2.2.1, .int .i64 a1_a1.2.2.2.1]] = t_parser_declaration a0_a0 a1_a1 := by kernel_rfl
theorem c_parser_declaration {ε σ β : Type} {I : Ifc ε σ} {t : Ty} {s : Sp ε σ β} {Rel : β → t.den → Own → Fact} {Γ : List Fact} (a0_a0 : Addr) (a1_a1 : HB [.int .i64, .str, .int .i64, .int .i64]) (h : Sim Tryz.prog I t Rel noLabel none (t_parser_declaration a0_a0 a1_a1) s [] Γ) : MeetsO Tryz.prog I (callS F_parser_declaration #[.pointer (some a0_a0), .agg #[.int .i64 a1_a1.1, .string a1_a1.2.1, .int .i64 a1_a1.2.2.1, .int .i64 a1_a1.2.2.2.1]]) t s Rel Γ :=
  meets_of_sim (args := [.pointer (some a0_a0), .agg #[.int .i64 a1_a1.1, .string a1_a1.2.1, .int .i64 a1_a1.2.2.1, .int .i64 a1_a1.2.2.2.1]]) Tryz.func131 rfl rfl (Nat.le_of_ble_eq_true rfl) (by rw [d_parser_declaration]; exact h)

def an_parser_function : An :=
  .s (.r [none]) (.s (.r [none, some tS, none]) (.s (.r [none, some tP, none]) (.s (.r [none, some tU]) (.s (.r [none, some tP, none]) (.s (.r [none, some tU]) (.s (.r [none, some tP, none]) (.s (.r [none, none, none, none, none, none, none, some tP, some tSl, some tP, none]) (.x))))))))
def t_parser_function (a0_p : Addr) (a1_kind : Int) (a2_at : Int) : T :=
 .op (callS F_parser_name #[.pointer (some a0_p)]) tS fun r1 =>
 .op (callS F_parser_vars #[.pointer (some a0_p)]) tP fun r2 =>
 .op (callS F_parser_must #[.pointer (some a0_p), .string k_lp]) tU fun _ =>
 .op (callS F_parser_params #[.pointer (some a0_p), .bool false]) tP fun r4 =>
 .op (callS F_parser_must #[.pointer (some a0_p), .string k_rp]) tU fun _ =>
 .op (callS F_parser_optional #[.pointer (some a0_p)]) tP fun r6 =>
 .op (callS F_parser_block #[.pointer (some a0_p)]) tP fun r7 =>
 .op (sliceS T_SPsyntax_node 4 #[(0, .pointer r2), (1, .pointer r4), (2, .pointer r6), (3, .pointer r7)]) tSl fun r8 =>
 .op (callS F_syntax_made #[.int .i64 a1_kind, .string r1, .int .i64 0, .int .i64 a2_at, .slice r8.1 r8.2.1 r8.2.2]) tP fun r9 =>
 .ret #[.v (.pointer r9)]
theorem d_parser_function (a0_p : Addr) (a1_kind : Int) (a2_at : Int) : fnT Tryz.prog Tryz.f181 an_parser_function [.pointer (some a0_p), .int .i64 a1_kind, .int .i64 a2_at] = t_parser_function a0_p a1_kind a2_at := by kernel_rfl
theorem c_parser_function {ε σ β : Type} {I : Ifc ε σ} {t : Ty} {s : Sp ε σ β} {Rel : β → t.den → Own → Fact} {Γ : List Fact} (a0_p : Addr) (a1_kind : Int) (a2_at : Int) (h : Sim Tryz.prog I t Rel noLabel none (t_parser_function a0_p a1_kind a2_at) s [] Γ) : MeetsO Tryz.prog I (callS F_parser_function #[.pointer (some a0_p), .int .i64 a1_kind, .int .i64 a2_at]) t s Rel Γ :=
  meets_of_sim (args := [.pointer (some a0_p), .int .i64 a1_kind, .int .i64 a2_at]) Tryz.func181 rfl rfl (Nat.le_of_ble_eq_true rfl) (by rw [d_parser_function]; exact h)

def an_parser_class : An :=
  .s (.r [none]) (.s (.r [none, some tS, none]) (.s (.r [none, some tP, none]) (.s (.r [none, some tP, none]) (.s (.s (.r [none, some (.c (.agg [.int .i64, .str, .int .i64, .int .i64])), none, none]) (.s (.r [none, some tB]) (.j [(7, .b .ptr)] (.c (.s (.r [none, some tS, none]) (.r [none, none, none, some tP, some tSl, some tP, none])) (.x))))) (.s (.r [none, some tP, none]) (.s (.r [none, some tU]) (.s (.r [none, some tP, none]) (.s (.r [none]) (.s (.j [(12, .b (.int .i64))] (.b (.l [(12, .b (.int .i64))] (.s (.s (.r [none, some tB, none]) (.c (.x) (.x))) (.b (.s (.r [none, some tP, none]) (.s (.s (.r [none, some tA, none, none, some tI, none]) (.j [(12, .b (.int .i64))] (.c (.r [none, none, none]) (.x)))) (.r [none, none, some tA, none, some tSl, none, some tSl, some tSl, some tA, none, some tU])))))))) (.s (.s (.r [none, none]) (.c (.r [none, some tU]) (.x))) (.s (.r [none, some tU]) (.s (.r [none, none, none, none, none, none, some tSl, some tP, none]) (.x)))))))))))))
def t_parser_class (a0_a0 : Addr) (a1_a1 : Int) : T :=
 .op (callS F_parser_name #[.pointer (some a0_a0)]) tS fun r1 =>
 .op (callS F_parser_vars #[.pointer (some a0_a0)]) tP fun r2 =>
 .op (callS F_parser_none #[.pointer (some a0_a0)]) tP fun r3 =>
 .op (callS F_parser_now #[.pointer (some a0_a0)]) (.c (.agg [.int .i64, .str, .int .i64, .int .i64])) fun r4 =>
 .op (callS F_parser_take #[.pointer (some a0_a0), .string kextends]) tB fun r5 =>
 .join 0 [.b .ptr] (
 .ite r5 (
 .op (callS F_parser_name #[.pointer (some a0_a0)]) tS fun r6 =>
 .op (callS F_parser_args #[.pointer (some a0_a0)]) tP fun r7 =>
 .op (sliceS T_SPsyntax_node 1 #[(0, .pointer r7)]) tSl fun r8 =>
 .op (callS F_syntax_made #[.int .i64 43, .string r6, .int .i64 0, .int .i64 r4.2.2.1, .slice r8.1 r8.2.1 r8.2.2]) tP fun r9 =>
 .out 0 [.pointer r9]) (
 .out 0 [.pointer r3])) fun x10 =>
 .op (callS F_parser_refs #[.pointer (some a0_a0), .string kimplements]) tP fun r11 =>
 .op (callS F_parser_must #[.pointer (some a0_a0), .string k_lc]) tU fun _ =>
 .op (callS F_parser_empty #[.pointer (some a0_a0)]) tP fun r13 =>
 .join 0 [.b (.int .i64)] (
 .loop 1 [.b (.int .i64)] [.int .i64 0] fun x14 =>
 .op (callS F_parser_is #[.pointer (some a0_a0), .string k_rc]) tB fun r15 =>
 .ite (!r15) (
 .op (callS F_parser_part #[.pointer (some a0_a0)]) tP fun r16 =>
 .op (nilS (.pointer r16)) tA fun r17 =>
 .op (ldS T_int (.pointer (some r17))) tI fun r18 =>
 .join 2 [.b (.int .i64)] (
 .ite ((r18 : Int) == 46) (
 .out 2 [.int .i64 (IntKind.i64.wrap (x14.1 + 1))]) (
 .out 2 [.int .i64 x14.1])) fun x19 =>
 .op (nilS (.pointer r13)) tA fun r20 =>
 .op (ldS T_SPsyntax_node (.pointer (some ⟨r20.block, r20.off + 5, none⟩))) tSl fun r21 =>
 .op (sliceS T_SPsyntax_node 1 #[(0, .pointer r16)]) tSl fun r22 =>
 .op (appS #[T_SPsyntax_node, T_SPsyntax_node] T_SPsyntax_node #[.slice r21.1 r21.2.1 r21.2.2, .slice r22.1 r22.2.1 r22.2.2]) tSl fun r23 =>
 .op (nilS (.pointer r13)) tA fun r24 =>
 .op (stS T_SPsyntax_node (.pointer (some ⟨r24.block, r24.off + 5, none⟩)) (.slice r23.1 r23.2.1 r23.2.2)) tU fun _ =>
 .out 1 [.int .i64 x19.1]) (
 .out 0 [.int .i64 x14.1])) fun x26 =>
 .ite (decide ((x26.1 : Int) > 1)) (
 .op (callS F_parser_fail #[.pointer (some a0_a0)]) tU fun _ =>
 .op (callS F_parser_must #[.pointer (some a0_a0), .string k_rc]) tU fun _ =>
 .op (sliceS T_SPsyntax_node 4 #[(0, .pointer r2), (1, .pointer x10.1), (2, .pointer r11), (3, .pointer r13)]) tSl fun r29 =>
 .op (callS F_syntax_made #[.int .i64 42, .string r1, .int .i64 0, .int .i64 a1_a1, .slice r29.1 r29.2.1 r29.2.2]) tP fun r30 =>
 .ret #[.v (.pointer r30)]) (
 .op (callS F_parser_must #[.pointer (some a0_a0), .string k_rc]) tU fun _ =>
 .op (sliceS T_SPsyntax_node 4 #[(0, .pointer r2), (1, .pointer x10.1), (2, .pointer r11), (3, .pointer r13)]) tSl fun r32 =>
 .op (callS F_syntax_made #[.int .i64 42, .string r1, .int .i64 0, .int .i64 a1_a1, .slice r32.1 r32.2.1 r32.2.2]) tP fun r33 =>
 .ret #[.v (.pointer r33)])
theorem d_parser_class (a0_a0 : Addr) (a1_a1 : Int) : fnT Tryz.prog Tryz.f182 an_parser_class [.pointer (some a0_a0), .int .i64 a1_a1] = t_parser_class a0_a0 a1_a1 := by kernel_rfl
theorem c_parser_class {ε σ β : Type} {I : Ifc ε σ} {t : Ty} {s : Sp ε σ β} {Rel : β → t.den → Own → Fact} {Γ : List Fact} (a0_a0 : Addr) (a1_a1 : Int) (h : Sim Tryz.prog I t Rel noLabel none (t_parser_class a0_a0 a1_a1) s [] Γ) : MeetsO Tryz.prog I (callS F_parser_class #[.pointer (some a0_a0), .int .i64 a1_a1]) t s Rel Γ :=
  meets_of_sim (args := [.pointer (some a0_a0), .int .i64 a1_a1]) Tryz.func182 rfl rfl (Nat.le_of_ble_eq_true rfl) (by rw [d_parser_class]; exact h)

def an_parser_part : An :=
  .s (.r [none]) (.s (.r [none, some (.c (.agg [.int .i64, .str, .int .i64, .int .i64])), none, none]) (.s (.s (.r [none, some tB]) (.c (.s (.r [none, some tU]) (.s (.r [none, some tP, none]) (.s (.r [none, some tU]) (.s (.r [none, none, none, some tP, some tSl, some tP, none]) (.x))))) (.x))) (.s (.s (.r [none, some (.c (.agg [.int .i64, .str, .int .i64, .int .i64])), some tA, some tU]) (.s (.j [(40, .b .bool)] (.r [none, some (.c (.agg [.int .i64, .str, .int .i64, .int .i64])), none, none, none, some (.c (.agg [.int .i64, .str, .int .i64, .int .i64])), some tB, none, some (.c (.agg [.int .i64, .str, .int .i64, .int .i64])), some tB, none, none])) (.c (.s (.r [none, none, some tP, none]) (.x)) (.x)))) (.s (.r [none]) (.s (.s (.r [none, some tB]) (.j [(6, .b (.int .i64))] (.c (.r [none]) (.x)))) (.s (.r [none, some tS, none]) (.s (.r [none, some tP, none]) (.s (.r [none, some tP, none]) (.s (.s (.r [none, some tB]) (.c (.r [none, some tP, none]) (.x))) (.s (.r [none, some tU]) (.s (.r [none, none, none, none, none, some tSl, some tP, none]) (.x))))))))))))
def t_parser_part (a0_a0 : Addr) : T :=
 .op (callS F_parser_now #[.pointer (some a0_a0)]) (.c (.agg [.int .i64, .str, .int .i64, .int .i64])) fun r1 =>
 .op (callS F_parser_take #[.pointer (some a0_a0), .string kconstructor]) tB fun r2 =>
 .ite r2 (
 .op (callS F_parser_must #[.pointer (some a0_a0), .string k_lp]) tU fun _ =>
 .op (callS F_parser_params #[.pointer (some a0_a0), .bool true]) tP fun r4 =>
 .op (callS F_parser_must #[.pointer (some a0_a0), .string k_rp]) tU fun _ =>
 .op (callS F_parser_block #[.pointer (some a0_a0)]) tP fun r6 =>
 .op (sliceS T_SPsyntax_node 2 #[(0, .pointer r4), (1, .pointer r6)]) tSl fun r7 =>
 .op (callS F_syntax_made #[.int .i64 46, .string kE, .int .i64 0, .int .i64 r1.2.2.1, .slice r7.1 r7.2.1 r7.2.2]) tP fun r8 =>
 .ret #[.v (.pointer r8)]) (
 .op (callS F_parser_then #[.pointer (some a0_a0), .int .i64 1]) (.c (.agg [.int .i64, .str, .int .i64, .int .i64])) fun r9 =>
 .op (allocS T_api_Token) tA fun r10 =>
 .op (stS T_api_Token (.pointer (some r10)) (.agg #[.int .i64 r9.1, .string r9.2.1, .int .i64 r9.2.2.1, .int .i64 r9.2.2.2.1])) tU fun _ =>
 .join 0 [.b .bool] (
 .op (callS F_parser_now #[.pointer (some a0_a0)]) (.c (.agg [.int .i64, .str, .int .i64, .int .i64])) fun r12 =>
 .ite ((r12.1 : Int) == 1) (
 .op (ldS T_api_Token (.pointer (some r10))) (.c (.agg [.int .i64, .str, .int .i64, .int .i64])) fun r13 =>
 .op (callS F_syntax_says #[.agg #[.int .i64 r13.1, .string r13.2.1, .int .i64 r13.2.2.1, .int .i64 r13.2.2.2.1], .string k_lp]) tB fun r14 =>
 .ite r14 (
 .out 0 [.bool true]) (
 .op (ldS T_api_Token (.pointer (some r10))) (.c (.agg [.int .i64, .str, .int .i64, .int .i64])) fun r15 =>
 .op (callS F_syntax_says #[.agg #[.int .i64 r15.1, .string r15.2.1, .int .i64 r15.2.2.1, .int .i64 r15.2.2.2.1], .string k_lt]) tB fun r16 =>
 .out 0 [.bool r16])) (
 .out 0 [.bool false])) fun x17 =>
 .ite x17.1 (
 .op (callS F_parser_function #[.pointer (some a0_a0), .int .i64 45, .int .i64 r1.2.2.1]) tP fun r18 =>
 .ret #[.v (.pointer r18)]) (
 .op (callS F_parser_take #[.pointer (some a0_a0), .string kreadonly]) tB fun r19 =>
 .join 0 [.b (.int .i64)] (
 .ite r19 (
 .out 0 [.int .i64 4]) (
 .out 0 [.int .i64 0])) fun x20 =>
 .op (callS F_parser_name #[.pointer (some a0_a0)]) tS fun r21 =>
 .op (callS F_parser_optional #[.pointer (some a0_a0)]) tP fun r22 =>
 .op (callS F_parser_none #[.pointer (some a0_a0)]) tP fun r23 =>
 .op (callS F_parser_take #[.pointer (some a0_a0), .string k_eq]) tB fun r24 =>
 .ite r24 (
 .op (callS F_parser_expr #[.pointer (some a0_a0)]) tP fun r25 =>
 .op (callS F_parser_must #[.pointer (some a0_a0), .string k_semi]) tU fun _ =>
 .op (sliceS T_SPsyntax_node 2 #[(0, .pointer r22), (1, .pointer r25)]) tSl fun r27 =>
 .op (callS F_syntax_made #[.int .i64 44, .string r21, .int .i64 x20.1, .int .i64 r1.2.2.1, .slice r27.1 r27.2.1 r27.2.2]) tP fun r28 =>
 .ret #[.v (.pointer r28)]) (
 .op (callS F_parser_must #[.pointer (some a0_a0), .string k_semi]) tU fun _ =>
 .op (sliceS T_SPsyntax_node 2 #[(0, .pointer r22), (1, .pointer r23)]) tSl fun r30 =>
 .op (callS F_syntax_made #[.int .i64 44, .string r21, .int .i64 x20.1, .int .i64 r1.2.2.1, .slice r30.1 r30.2.1 r30.2.2]) tP fun r31 =>
 .ret #[.v (.pointer r31)])))
theorem d_parser_part (a0_a0 : Addr) : fnT Tryz.prog Tryz.f216 an_parser_part [.pointer (some a0_a0)] = t_parser_part a0_a0 := by kernel_rfl
theorem c_parser_part {ε σ β : Type} {I : Ifc ε σ} {t : Ty} {s : Sp ε σ β} {Rel : β → t.den → Own → Fact} {Γ : List Fact} (a0_a0 : Addr) (h : Sim Tryz.prog I t Rel noLabel none (t_parser_part a0_a0) s [] Γ) : MeetsO Tryz.prog I (callS F_parser_part #[.pointer (some a0_a0)]) t s Rel Γ :=
  meets_of_sim (args := [.pointer (some a0_a0)]) Tryz.func216 rfl rfl (Nat.le_of_ble_eq_true rfl) (by rw [d_parser_part]; exact h)

def an_parser_enum : An :=
  .s (.r [none]) (.b (.s (.r [none, some tU]) (.s (.r [none, some tS, none, none, some tP, none]) (.s (.r [none, some tU]) (.s (.x) (.s (.j [] (.b (.l [] (.s (.s (.r [none, some tB, none]) (.c (.x) (.x))) (.b (.s (.r [none, some (.c (.agg [.int .i64, .str, .int .i64, .int .i64])), none, none]) (.s (.r [none, some tS, none]) (.s (.r [none, some tP, none]) (.s (.s (.r [none, some tB]) (.j [(10, .b .ptr)] (.c (.r [none, some tP, none]) (.x)))) (.s (.d (.q 0 none (.q 1 none (.q 2 (some tA) (.q 3 none (.q 4 (some tSl) (.q 5 none (.q 6 none (.q 7 none (.l 8 (some tSl) (.l 9 (some tP) (.l 10 (some tSl) (.l 11 (some tSl) (.q 12 (some tA) (.q 13 none (.l 14 (some tU) (.e))))))))))))))))) (.s (.r [none, some tB, none]) (.c (.x) (.x))))))))))))) (.s (.r [none, some tU]) (.s (.r [none, none]) (.x)))))))))
def t_parser_enum (a0_p : Addr) (a1_n : Int) (a2_at : Int) : T :=
 .op (callS F_parser_must #[.pointer (some a0_p), .string kenum]) tU fun _ =>
 .op (callS F_parser_name #[.pointer (some a0_p)]) tS fun r2 =>
 .op (callS F_syntax_made #[.int .i64 47, .string r2, .int .i64 a1_n, .int .i64 a2_at, .slice none 0 0]) tP fun r3 =>
 .op (callS F_parser_must #[.pointer (some a0_p), .string k_lc]) tU fun _ =>
 .join 0 [] (
 .loop 1 [] [] fun x5 =>
 .op (callS F_parser_is #[.pointer (some a0_p), .string k_rc]) tB fun r6 =>
 .ite (!r6) (
 .op (callS F_parser_now #[.pointer (some a0_p)]) (.c (.agg [.int .i64, .str, .int .i64, .int .i64])) fun r7 =>
 .op (callS F_parser_name #[.pointer (some a0_p)]) tS fun r8 =>
 .op (callS F_parser_none #[.pointer (some a0_p)]) tP fun r9 =>
 .op (callS F_parser_take #[.pointer (some a0_p), .string k_eq]) tB fun r10 =>
 .join 2 [.b .ptr] (
 .ite r10 (
 .op (callS F_parser_expr #[.pointer (some a0_p)]) tP fun r11 =>
 .out 2 [.pointer r11]) (
 .out 2 [.pointer r9])) fun x12 =>
 .draw <|
 .opq (nilS (.pointer r3)) tA fun r13 =>
 .opq (ldS T_SPsyntax_node (.pointer (some ⟨r13.block, r13.off + 5, none⟩))) tSl fun r14 =>
 .opl (sliceS T_SPsyntax_node 1 #[(0, .pointer x12.1)]) tSl fun r15 =>
 .opl (callS F_syntax_made #[.int .i64 48, .string r8, .int .i64 0, .int .i64 r7.2.2.1, .slice r15.1 r15.2.1 r15.2.2]) tP fun r16 =>
 .opl (sliceS T_SPsyntax_node 1 #[(0, .pointer r16)]) tSl fun r17 =>
 .opl (appS #[T_SPsyntax_node, T_SPsyntax_node] T_SPsyntax_node #[.slice r14.1 r14.2.1 r14.2.2, .slice r17.1 r17.2.1 r17.2.2]) tSl fun r18 =>
 .opq (nilS (.pointer r3)) tA fun r19 =>
 .op (stS T_SPsyntax_node (.pointer (some ⟨r19.block, r19.off + 5, none⟩)) (.slice r18.1 r18.2.1 r18.2.2)) tU fun _ =>
 .op (callS F_parser_take #[.pointer (some a0_p), .string k_comma]) tB fun r21 =>
 .ite (!r21) (
 .out 0 []) (
 .out 1 [])) (
 .out 0 [])) fun x22 =>
 .op (callS F_parser_must #[.pointer (some a0_p), .string k_rc]) tU fun _ =>
 .ret #[.v (.pointer r3)]
theorem d_parser_enum (a0_p : Addr) (a1_n : Int) (a2_at : Int) : fnT Tryz.prog Tryz.f179 an_parser_enum [.pointer (some a0_p), .int .i64 a1_n, .int .i64 a2_at] = t_parser_enum a0_p a1_n a2_at := by kernel_rfl
theorem c_parser_enum {ε σ β : Type} {I : Ifc ε σ} {t : Ty} {s : Sp ε σ β} {Rel : β → t.den → Own → Fact} {Γ : List Fact} (a0_p : Addr) (a1_n : Int) (a2_at : Int) (h : Sim Tryz.prog I t Rel noLabel none (t_parser_enum a0_p a1_n a2_at) s [] Γ) : MeetsO Tryz.prog I (callS F_parser_enum #[.pointer (some a0_p), .int .i64 a1_n, .int .i64 a2_at]) t s Rel Γ :=
  meets_of_sim (args := [.pointer (some a0_p), .int .i64 a1_n, .int .i64 a2_at]) Tryz.func179 rfl rfl (Nat.le_of_ble_eq_true rfl) (by rw [d_parser_enum]; exact h)

def an_parser_namespace : An :=
  .s (.r [none]) (.s (.r [none, some tS, none, some tP, none]) (.s (.r [none, some tU]) (.s (.j [] (.b (.l [] (.s (.s (.r [none, some tB, none]) (.c (.x) (.x))) (.b (.s (.r [none, some (.c (.agg [.int .i64, .str, .int .i64, .int .i64])), some tA, some tU]) (.s (.s (.r [none, some tB, none]) (.c (.s (.d (.q 0 none (.q 1 none (.q 2 (some tA) (.q 3 none (.q 4 (some tSl) (.q 5 none (.l 6 (some tP) (.l 7 (some tSl) (.l 8 (some tSl) (.q 9 (some tA) (.q 10 none (.l 11 (some tU) (.e)))))))))))))) (.x)) (.x))) (.s (.s (.j [(40, .b .bool)] (.r [none, some tB, none, none, some (.c (.agg [.int .i64, .str, .int .i64, .int .i64])), none, none, none])) (.j [] (.c (.r [none, some tU]) (.x)))) (.s (.r [none, none, some (.c (.agg [.int .i64, .str, .int .i64, .int .i64])), some tP, none]) (.s (.s (.j [(64, .b .bool)] (.r [none, some tB, none, none, some tA, none, none, some tI, none, none, none, some tA, none, none, some tI, none, none, none])) (.j [] (.c (.r [none, some tU]) (.x)))) (.d (.q 0 none (.q 1 none (.q 2 (some tA) (.q 3 none (.q 4 (some tSl) (.q 5 none (.q 6 (some tI) (.q 7 none (.l 8 (some tSl) (.l 9 (some tP) (.l 10 (some tSl) (.l 11 (some tSl) (.q 12 (some tA) (.q 13 none (.l 14 (some tU) (.e))))))))))))))))))))))))))) (.s (.r [none, some tU]) (.s (.r [none, none]) (.x))))))
def t_parser_namespace (a0_a0 : Addr) (a1_a1 : Int) : T :=
 .op (callS F_parser_name #[.pointer (some a0_a0)]) tS fun r1 =>
 .op (callS F_syntax_made #[.int .i64 49, .string r1, .int .i64 0, .int .i64 a1_a1, .slice none 0 0]) tP fun r2 =>
 .op (callS F_parser_must #[.pointer (some a0_a0), .string k_lc]) tU fun _ =>
 .join 0 [] (
 .loop 1 [] [] fun x4 =>
 .op (callS F_parser_is #[.pointer (some a0_a0), .string k_rc]) tB fun r5 =>
 .ite (!r5) (
 .op (callS F_parser_now #[.pointer (some a0_a0)]) (.c (.agg [.int .i64, .str, .int .i64, .int .i64])) fun r6 =>
 .op (allocS T_api_Token) tA fun r7 =>
 .op (stS T_api_Token (.pointer (some r7)) (.agg #[.int .i64 r6.1, .string r6.2.1, .int .i64 r6.2.2.1, .int .i64 r6.2.2.2.1])) tU fun _ =>
 .op (callS F_parser_take #[.pointer (some a0_a0), .string kexport]) tB fun r9 =>
 .ite (!r9) (
 .draw <|
 .opq (nilS (.pointer r2)) tA fun r10 =>
 .opq (ldS T_SPsyntax_node (.pointer (some ⟨r10.block, r10.off + 5, none⟩))) tSl fun r11 =>
 .opl (callS F_parser_statement #[.pointer (some a0_a0)]) tP fun r12 =>
 .opl (sliceS T_SPsyntax_node 1 #[(0, .pointer r12)]) tSl fun r13 =>
 .opl (appS #[T_SPsyntax_node, T_SPsyntax_node] T_SPsyntax_node #[.slice r11.1 r11.2.1 r11.2.2, .slice r13.1 r13.2.1 r13.2.2]) tSl fun r14 =>
 .opq (nilS (.pointer r2)) tA fun r15 =>
 .op (stS T_SPsyntax_node (.pointer (some ⟨r15.block, r15.off + 5, none⟩)) (.slice r14.1 r14.2.1 r14.2.2)) tU fun _ =>
 .out 1 []) (
 .join 2 [.b .bool] (
 .op (callS F_parser_is #[.pointer (some a0_a0), .string klet]) tB fun r17 =>
 .ite r17 (
 .out 2 [.bool true]) (
 .op (callS F_parser_now #[.pointer (some a0_a0)]) (.c (.agg [.int .i64, .str, .int .i64, .int .i64])) fun r18 =>
 .out 2 [.bool ((r18.1 : Int) != 2)])) fun x19 =>
 .join 2 [] (
 .ite x19.1 (
 .op (callS F_parser_fail #[.pointer (some a0_a0)]) tU fun _ =>
 .out 2 []) (
 .out 2 [])) fun x21 =>
 .op (callS F_parser_now #[.pointer (some a0_a0)]) (.c (.agg [.int .i64, .str, .int .i64, .int .i64])) fun r22 =>
 .op (callS F_parser_declaration #[.pointer (some a0_a0), .agg #[.int .i64 r22.1, .string r22.2.1, .int .i64 r22.2.2.1, .int .i64 r22.2.2.2.1]]) tP fun r23 =>
 .join 2 [.b .bool] (
 .op (binS .eql T_Psyntax_node (.pointer r23) (.pointer none)) tB fun r24 =>
 .ite r24 (
 .out 2 [.bool true]) (
 .op (nilS (.pointer r23)) tA fun r25 =>
 .op (ldS T_int (.pointer (some r25))) tI fun r26 =>
 .ite ((r26 : Int) == 47) (
 .op (nilS (.pointer r23)) tA fun r27 =>
 .op (ldS T_int (.pointer (some ⟨r27.block, r27.off + 2, none⟩))) tI fun r28 =>
 .out 2 [.bool ((r28 : Int) == 1)]) (
 .out 2 [.bool false]))) fun x29 =>
 .join 2 [] (
 .ite x29.1 (
 .op (callS F_parser_fail #[.pointer (some a0_a0)]) tU fun _ =>
 .out 2 []) (
 .out 2 [])) fun x31 =>
 .draw <|
 .opq (nilS (.pointer r2)) tA fun r32 =>
 .opq (ldS T_SPsyntax_node (.pointer (some ⟨r32.block, r32.off + 5, none⟩))) tSl fun r33 =>
 .opq (ldS T_int (.pointer (some ⟨r7.block, r7.off + 2, none⟩))) tI fun r34 =>
 .opl (sliceS T_SPsyntax_node 1 #[(0, .pointer r23)]) tSl fun r35 =>
 .opl (callS F_syntax_made #[.int .i64 50, .string kE, .int .i64 0, .int .i64 r34, .slice r35.1 r35.2.1 r35.2.2]) tP fun r36 =>
 .opl (sliceS T_SPsyntax_node 1 #[(0, .pointer r36)]) tSl fun r37 =>
 .opl (appS #[T_SPsyntax_node, T_SPsyntax_node] T_SPsyntax_node #[.slice r33.1 r33.2.1 r33.2.2, .slice r37.1 r37.2.1 r37.2.2]) tSl fun r38 =>
 .opq (nilS (.pointer r2)) tA fun r39 =>
 .op (stS T_SPsyntax_node (.pointer (some ⟨r39.block, r39.off + 5, none⟩)) (.slice r38.1 r38.2.1 r38.2.2)) tU fun _ =>
 .out 1 [])) (
 .out 0 [])) fun x41 =>
 .op (callS F_parser_must #[.pointer (some a0_a0), .string k_rc]) tU fun _ =>
 .ret #[.v (.pointer r2)]
theorem d_parser_namespace (a0_a0 : Addr) (a1_a1 : Int) : fnT Tryz.prog Tryz.f183 an_parser_namespace [.pointer (some a0_a0), .int .i64 a1_a1] = t_parser_namespace a0_a0 a1_a1 := by kernel_rfl
theorem c_parser_namespace {ε σ β : Type} {I : Ifc ε σ} {t : Ty} {s : Sp ε σ β} {Rel : β → t.den → Own → Fact} {Γ : List Fact} (a0_a0 : Addr) (a1_a1 : Int) (h : Sim Tryz.prog I t Rel noLabel none (t_parser_namespace a0_a0 a1_a1) s [] Γ) : MeetsO Tryz.prog I (callS F_parser_namespace #[.pointer (some a0_a0), .int .i64 a1_a1]) t s Rel Γ :=
  meets_of_sim (args := [.pointer (some a0_a0), .int .i64 a1_a1]) Tryz.func183 rfl rfl (Nat.le_of_ble_eq_true rfl) (by rw [d_parser_namespace]; exact h)
end
end Go.Proofs.YtjlgcpgjdgeejaaGreatDoor
end

/- The parser of statements. Conditions: none. -/
section
namespace Go.Proofs.YtjlgcpgjdgeejaaGreatDoor
open Go
set_option linter.unusedSimpArgs false
set_option linter.unusedVariables false
set_option linter.constructorNameAsVariable false
set_option maxRecDepth 100000

theorem emptyO0_m (pb : Nat) : MeetsO PG (PI pb) (callS F_parser_empty #[.pointer (some (pAt pb))]) tP emptyS (fun n x K => (Fact.prop (n.kids = [])).both (OwnN n x K)) [] := by
  refine c_parser_empty (pAt pb) ?_
  unfold t_parser_empty emptyS
  refine sim_op (now_m pb) (fun _ h => nomatch h) fun x b => Sim.prop fun h => ?_
  subst h
  refine sim_own0 fun y K => ?_
  exact sim_ret1O (t := tP) K (List.sublist_append_left ..) _ rfl (fun F hF => ⟨rfl, hF _ (List.mem_cons_self ..)⟩)
theorem block_m {R : PRec} (hR : PRecM R) (pb : Nat) : Meets PG (PI pb) (callS F_parser_block #[.pointer (some (pAt pb))]) tP (blockS R) NodeF [] := by
  refine c_parser_block (pAt pb) ?_
  unfold t_parser_block blockS
  (repeat (first | with_reducible refine Sim.assoc ?_ | with_reducible refine Sim.pb ?_ | with_reducible refine Sim.ct ?_ | with_reducible refine Sim.cf ?_ | with_reducible refine Sim.ctb ?_ | with_reducible refine Sim.cfb ?_))
  first | refine sim_op (now_m _) (fun _ h => nomatch h) fun r1 b => Sim.prop fun h => ?_ | refine sim_op1 (now_m _) (fun _ h => nomatch h) fun r1 b => Sim.prop fun h => ?_
  subst h
  refine sim_own0 fun r2 Kr2 => ?_
  (repeat (first | with_reducible refine Sim.assoc ?_ | with_reducible refine Sim.pb ?_ | with_reducible refine Sim.ct ?_ | with_reducible refine Sim.cf ?_ | with_reducible refine Sim.ctb ?_ | with_reducible refine Sim.cfb ?_))
  first | refine sim_op (must_m _ _) (fun _ h => nomatch h) fun x b => ?_ | refine sim_op1 (must_m _ _) (fun _ h => nomatch h) fun x b => ?_
  refine sim_joinO (fun n => do mustS k_rc; pure n) r2 [] ?_ fun n K => ?_
  · skip
    refine sim_fuelO (stmtsS R) R.fuel _ (fun _ => rfl) rfl (by have := hR.fuel; simp [mkN, N.kids]; omega) (by repeat (first | exact List.mem_cons_self .. | apply List.mem_cons_of_mem)) fun k n K hn => ?_
    (repeat (first | with_reducible refine Sim.assoc ?_ | with_reducible refine Sim.pb ?_ | with_reducible refine Sim.ct ?_ | with_reducible refine Sim.cf ?_ | with_reducible refine Sim.ctb ?_ | with_reducible refine Sim.cfb ?_))
    first | refine sim_op (is_m _ _) (fun _ h => nomatch h) fun r5 b => Sim.prop fun h => ?_ | refine sim_op1 (is_m _ _) (fun _ h => nomatch h) fun r5 b => Sim.prop fun h => ?_
    subst h
    (repeat (first | with_reducible refine Sim.assoc ?_ | with_reducible refine Sim.pb ?_ | with_reducible refine Sim.ct ?_ | with_reducible refine Sim.cf ?_ | with_reducible refine Sim.ctb ?_ | with_reducible refine Sim.cfb ?_))
    (first | refine sim_cond (fun h => ?_) (fun h => ?_) | refine sim_condb (fun h => ?_) (fun h => ?_) | refine sim_condn (fun h => ?_) (fun h => ?_) | refine sim_condnb (fun h => ?_) (fun h => ?_) | refine sim_ite (fun h => ?_) (fun h => ?_)) -- (!r5)
    · skip
      refine sim_growM (by repeat (first | exact List.mem_cons_self .. | apply List.mem_cons_of_mem)) fun b sl ps K2 hx hb => ?_
      (repeat (first | with_reducible refine Sim.assoc ?_ | with_reducible refine Sim.pb ?_ | with_reducible refine Sim.ct ?_ | with_reducible refine Sim.cf ?_ | with_reducible refine Sim.ctb ?_ | with_reducible refine Sim.cfb ?_))
      first | refine sim_opl (hR.statement _) (fun _ h => nomatch h) fun r8 nr8 => ?_ | refine sim_opl1 (hR.statement _) (fun _ h => nomatch h) fun r8 nr8 => ?_
      subst hx
      refine sim_push hb (by repeat (first | exact List.mem_cons_self .. | apply List.mem_cons_of_mem)) (by repeat (first | exact List.mem_cons_self .. | apply List.mem_cons_of_mem)) (by omega) fun K => ?_
      (first | refine sim_outO0 _ rfl (by simp [N.push_len] at hn ⊢; omega) (by repeat (first | exact List.mem_cons_self .. | apply List.mem_cons_of_mem)) | refine sim_outO1 _ (by decide) rfl (by simp [N.push_len] at hn ⊢; omega) (by repeat (first | exact List.mem_cons_self .. | apply List.mem_cons_of_mem)))
    · skip
      exact sim_outJO _ rfl rfl (by repeat (first | exact List.mem_cons_self .. | apply List.mem_cons_of_mem))
  · skip
    (repeat (first | with_reducible refine Sim.assoc ?_ | with_reducible refine Sim.pb ?_ | with_reducible refine Sim.ct ?_ | with_reducible refine Sim.cf ?_ | with_reducible refine Sim.ctb ?_ | with_reducible refine Sim.cfb ?_))
    first | refine sim_op (must_m _ _) (fun _ h => nomatch h) fun x b => ?_ | refine sim_op1 (must_m _ _) (fun _ h => nomatch h) fun x b => ?_
    refine sim_doneM (n := _) (x := r2) (by repeat (first | exact List.mem_cons_self .. | apply List.mem_cons_of_mem)) ?_
    (repeat (first | with_reducible refine Sim.assoc ?_ | with_reducible refine Sim.pb ?_ | with_reducible refine Sim.ct ?_ | with_reducible refine Sim.cf ?_ | with_reducible refine Sim.ctb ?_ | with_reducible refine Sim.cfb ?_))
    exact sim_ret1 (t := tP) _ rfl (fun F hF => hF _ (by repeat (first | exact List.mem_cons_self .. | apply List.mem_cons_of_mem)))
theorem round_m {R : PRec} (hR : PRecM R) (pb : Nat) : Meets PG (PI pb) (callS F_parser_round #[.pointer (some (pAt pb))]) tP (roundS R) NodeF [] := by
  refine c_parser_round (pAt pb) ?_
  unfold t_parser_round roundS
  (repeat (first | with_reducible refine Sim.assoc ?_ | with_reducible refine Sim.pb ?_ | with_reducible refine Sim.ct ?_ | with_reducible refine Sim.cf ?_ | with_reducible refine Sim.ctb ?_ | with_reducible refine Sim.cfb ?_))
  first | refine sim_op (must_m _ _) (fun _ h => nomatch h) fun x b => ?_ | refine sim_op1 (must_m _ _) (fun _ h => nomatch h) fun x b => ?_
  (repeat (first | with_reducible refine Sim.assoc ?_ | with_reducible refine Sim.pb ?_ | with_reducible refine Sim.ct ?_ | with_reducible refine Sim.cf ?_ | with_reducible refine Sim.ctb ?_ | with_reducible refine Sim.cfb ?_))
  first | refine sim_op (hR.expr _) (fun _ h => nomatch h) fun r2 nr2 => ?_ | refine sim_op1 (hR.expr _) (fun _ h => nomatch h) fun r2 nr2 => ?_
  (repeat (first | with_reducible refine Sim.assoc ?_ | with_reducible refine Sim.pb ?_ | with_reducible refine Sim.ct ?_ | with_reducible refine Sim.cf ?_ | with_reducible refine Sim.ctb ?_ | with_reducible refine Sim.cfb ?_))
  first | refine sim_op (must_m _ _) (fun _ h => nomatch h) fun x b => ?_ | refine sim_op1 (must_m _ _) (fun _ h => nomatch h) fun x b => ?_
  (repeat (first | with_reducible refine Sim.assoc ?_ | with_reducible refine Sim.pb ?_ | with_reducible refine Sim.ct ?_ | with_reducible refine Sim.cf ?_ | with_reducible refine Sim.ctb ?_ | with_reducible refine Sim.cfb ?_))
  exact sim_ret1 (t := tP) _ rfl (fun F hF => hF _ (by repeat (first | exact List.mem_cons_self .. | apply List.mem_cons_of_mem)))
theorem ended_m {R : PRec} (hR : PRecM R) (pb : Nat) (kind : Int) (pos : Int) (may : Bool) : Meets PG (PI pb) (callS F_parser_ended #[.pointer (some (pAt pb)), .int .i64 kind, .int .i64 pos, .bool may]) tP (endedS R kind pos may) NodeF [] := by
  refine c_parser_ended (pAt pb) kind pos may ?_
  unfold t_parser_ended endedS
  (repeat (first | with_reducible refine Sim.assoc ?_ | with_reducible refine Sim.pb ?_ | with_reducible refine Sim.ct ?_ | with_reducible refine Sim.cf ?_ | with_reducible refine Sim.ctb ?_ | with_reducible refine Sim.cfb ?_))
  first | refine sim_op (none_m _) (fun _ h => nomatch h) fun r1 nr1 => ?_ | refine sim_op1 (none_m _) (fun _ h => nomatch h) fun r1 nr1 => ?_
  first | refine sim_joinBb ?_ fun x3 => ?_ | refine sim_joinBc ?_ fun x3 => ?_
  · skip
    (repeat (first | with_reducible refine Sim.assoc ?_ | with_reducible refine Sim.pb ?_ | with_reducible refine Sim.ct ?_ | with_reducible refine Sim.cf ?_ | with_reducible refine Sim.ctb ?_ | with_reducible refine Sim.cfb ?_))
    (first | refine sim_cond (fun h => ?_) (fun h => ?_) | refine sim_condb (fun h => ?_) (fun h => ?_) | refine sim_condn (fun h => ?_) (fun h => ?_) | refine sim_condnb (fun h => ?_) (fun h => ?_) | refine sim_ite (fun h => ?_) (fun h => ?_)) -- (!a3_may)
    · skip
      exact sim_outB _ rfl (by first | rfl | (simp only [Tok.kind] at *; simp_all))
    · skip
      (repeat (first | with_reducible refine Sim.assoc ?_ | with_reducible refine Sim.pb ?_ | with_reducible refine Sim.ct ?_ | with_reducible refine Sim.cf ?_ | with_reducible refine Sim.ctb ?_ | with_reducible refine Sim.cfb ?_))
      first | refine sim_op (is_m _ _) (fun _ h => nomatch h) fun r2 b => Sim.prop fun h => ?_ | refine sim_op1 (is_m _ _) (fun _ h => nomatch h) fun r2 b => Sim.prop fun h => ?_
      subst h
      exact sim_outB _ rfl (by first | rfl | (simp only [Tok.kind] at *; simp_all))
  · skip
    (repeat (first | with_reducible refine Sim.assoc ?_ | with_reducible refine Sim.pb ?_ | with_reducible refine Sim.ct ?_ | with_reducible refine Sim.cf ?_ | with_reducible refine Sim.ctb ?_ | with_reducible refine Sim.cfb ?_))
    (first | refine sim_cond (fun h => ?_) (fun h => ?_) | refine sim_condb (fun h => ?_) (fun h => ?_) | refine sim_condn (fun h => ?_) (fun h => ?_) | refine sim_condnb (fun h => ?_) (fun h => ?_) | refine sim_ite (fun h => ?_) (fun h => ?_)) -- x3.1
    · skip
      (repeat (first | with_reducible refine Sim.assoc ?_ | with_reducible refine Sim.pb ?_ | with_reducible refine Sim.ct ?_ | with_reducible refine Sim.cf ?_ | with_reducible refine Sim.ctb ?_ | with_reducible refine Sim.cfb ?_))
      first | refine sim_op (hR.expr _) (fun _ h => nomatch h) fun r4 nr4 => ?_ | refine sim_op1 (hR.expr _) (fun _ h => nomatch h) fun r4 nr4 => ?_
      (repeat (first | with_reducible refine Sim.assoc ?_ | with_reducible refine Sim.pb ?_ | with_reducible refine Sim.ct ?_ | with_reducible refine Sim.cf ?_ | with_reducible refine Sim.ctb ?_ | with_reducible refine Sim.cfb ?_))
      first | refine sim_op (must_m _ _) (fun _ h => nomatch h) fun x b => ?_ | refine sim_op1 (must_m _ _) (fun _ h => nomatch h) fun x b => ?_
      refine sim_node [r4] [nr4] rfl (by decide) (by decide) (by kernel_rfl) (fun F hF => (.cons _ _ _ _ (hF (NodeF nr4 r4) (by repeat (first | exact List.mem_cons_self .. | apply List.mem_cons_of_mem))) .nil)) fun r7 => ?_
      (repeat (first | with_reducible refine Sim.assoc ?_ | with_reducible refine Sim.pb ?_ | with_reducible refine Sim.ct ?_ | with_reducible refine Sim.cf ?_ | with_reducible refine Sim.ctb ?_ | with_reducible refine Sim.cfb ?_))
      exact sim_ret1 (t := tP) _ rfl (fun F hF => hF _ (by repeat (first | exact List.mem_cons_self .. | apply List.mem_cons_of_mem)))
    · skip
      (repeat (first | with_reducible refine Sim.assoc ?_ | with_reducible refine Sim.pb ?_ | with_reducible refine Sim.ct ?_ | with_reducible refine Sim.cf ?_ | with_reducible refine Sim.ctb ?_ | with_reducible refine Sim.cfb ?_))
      first | refine sim_op (must_m _ _) (fun _ h => nomatch h) fun x b => ?_ | refine sim_op1 (must_m _ _) (fun _ h => nomatch h) fun x b => ?_
      refine sim_node [r1] [nr1] rfl (by decide) (by decide) (by kernel_rfl) (fun F hF => (.cons _ _ _ _ (hF (NodeF nr1 r1) (by repeat (first | exact List.mem_cons_self .. | apply List.mem_cons_of_mem))) .nil)) fun r10 => ?_
      (repeat (first | with_reducible refine Sim.assoc ?_ | with_reducible refine Sim.pb ?_ | with_reducible refine Sim.ct ?_ | with_reducible refine Sim.cf ?_ | with_reducible refine Sim.ctb ?_ | with_reducible refine Sim.cfb ?_))
      exact sim_ret1 (t := tP) _ rfl (fun F hF => hF _ (by repeat (first | exact List.mem_cons_self .. | apply List.mem_cons_of_mem)))
theorem variable_m {R : PRec} (hR : PRecM R) (pb : Nat) (n : Int) (pos : Int) : Meets PG (PI pb) (callS F_parser_variable #[.pointer (some (pAt pb)), .int .i64 n, .int .i64 pos]) tP (variableS R n pos) NodeF [] := by
  refine c_parser_variable (pAt pb) n pos ?_
  unfold t_parser_variable variableS
  (repeat (first | with_reducible refine Sim.assoc ?_ | with_reducible refine Sim.pb ?_ | with_reducible refine Sim.ct ?_ | with_reducible refine Sim.cf ?_ | with_reducible refine Sim.ctb ?_ | with_reducible refine Sim.cfb ?_))
  first | refine sim_op (name_m _) (fun _ h => nomatch h) fun r1 b => Sim.prop fun h => ?_ | refine sim_op1 (name_m _) (fun _ h => nomatch h) fun r1 b => Sim.prop fun h => ?_
  subst h
  (repeat (first | with_reducible refine Sim.assoc ?_ | with_reducible refine Sim.pb ?_ | with_reducible refine Sim.ct ?_ | with_reducible refine Sim.cf ?_ | with_reducible refine Sim.ctb ?_ | with_reducible refine Sim.cfb ?_))
  first | refine sim_op (optional_m hR _) (fun _ h => nomatch h) fun r2 nr2 => ?_ | refine sim_op1 (optional_m hR _) (fun _ h => nomatch h) fun r2 nr2 => ?_
  (repeat (first | with_reducible refine Sim.assoc ?_ | with_reducible refine Sim.pb ?_ | with_reducible refine Sim.ct ?_ | with_reducible refine Sim.cf ?_ | with_reducible refine Sim.ctb ?_ | with_reducible refine Sim.cfb ?_))
  first | refine sim_op (must_m _ _) (fun _ h => nomatch h) fun x b => ?_ | refine sim_op1 (must_m _ _) (fun _ h => nomatch h) fun x b => ?_
  (repeat (first | with_reducible refine Sim.assoc ?_ | with_reducible refine Sim.pb ?_ | with_reducible refine Sim.ct ?_ | with_reducible refine Sim.cf ?_ | with_reducible refine Sim.ctb ?_ | with_reducible refine Sim.cfb ?_))
  first | refine sim_op (hR.expr _) (fun _ h => nomatch h) fun r4 nr4 => ?_ | refine sim_op1 (hR.expr _) (fun _ h => nomatch h) fun r4 nr4 => ?_
  refine sim_node [r2, r4] [nr2, nr4] rfl (by decide) (by decide) (by kernel_rfl) (fun F hF => (.cons _ _ _ _ (hF (NodeF nr2 r2) (by repeat (first | exact List.mem_cons_self .. | apply List.mem_cons_of_mem))) (.cons _ _ _ _ (hF (NodeF nr4 r4) (by repeat (first | exact List.mem_cons_self .. | apply List.mem_cons_of_mem))) .nil))) fun r6 => ?_
  (repeat (first | with_reducible refine Sim.assoc ?_ | with_reducible refine Sim.pb ?_ | with_reducible refine Sim.ct ?_ | with_reducible refine Sim.cf ?_ | with_reducible refine Sim.ctb ?_ | with_reducible refine Sim.cfb ?_))
  exact sim_ret1 (t := tP) _ rfl (fun F hF => hF _ (by repeat (first | exact List.mem_cons_self .. | apply List.mem_cons_of_mem)))
theorem function_m {R : PRec} (hR : PRecM R) (pb : Nat) (kind : Int) (pos : Int) : Meets PG (PI pb) (callS F_parser_function #[.pointer (some (pAt pb)), .int .i64 kind, .int .i64 pos]) tP (functionS R kind pos) NodeF [] := by
  refine c_parser_function (pAt pb) kind pos ?_
  unfold t_parser_function functionS
  (repeat (first | with_reducible refine Sim.assoc ?_ | with_reducible refine Sim.pb ?_ | with_reducible refine Sim.ct ?_ | with_reducible refine Sim.cf ?_ | with_reducible refine Sim.ctb ?_ | with_reducible refine Sim.cfb ?_))
  first | refine sim_op (name_m _) (fun _ h => nomatch h) fun r1 b => Sim.prop fun h => ?_ | refine sim_op1 (name_m _) (fun _ h => nomatch h) fun r1 b => Sim.prop fun h => ?_
  subst h
  (repeat (first | with_reducible refine Sim.assoc ?_ | with_reducible refine Sim.pb ?_ | with_reducible refine Sim.ct ?_ | with_reducible refine Sim.cf ?_ | with_reducible refine Sim.ctb ?_ | with_reducible refine Sim.cfb ?_))
  first | refine sim_op (vars_m hR _) (fun _ h => nomatch h) fun r2 nr2 => ?_ | refine sim_op1 (vars_m hR _) (fun _ h => nomatch h) fun r2 nr2 => ?_
  (repeat (first | with_reducible refine Sim.assoc ?_ | with_reducible refine Sim.pb ?_ | with_reducible refine Sim.ct ?_ | with_reducible refine Sim.cf ?_ | with_reducible refine Sim.ctb ?_ | with_reducible refine Sim.cfb ?_))
  first | refine sim_op (must_m _ _) (fun _ h => nomatch h) fun x b => ?_ | refine sim_op1 (must_m _ _) (fun _ h => nomatch h) fun x b => ?_
  (repeat (first | with_reducible refine Sim.assoc ?_ | with_reducible refine Sim.pb ?_ | with_reducible refine Sim.ct ?_ | with_reducible refine Sim.cf ?_ | with_reducible refine Sim.ctb ?_ | with_reducible refine Sim.cfb ?_))
  first | refine sim_op (params_m hR _ _) (fun _ h => nomatch h) fun r4 nr4 => ?_ | refine sim_op1 (params_m hR _ _) (fun _ h => nomatch h) fun r4 nr4 => ?_
  (repeat (first | with_reducible refine Sim.assoc ?_ | with_reducible refine Sim.pb ?_ | with_reducible refine Sim.ct ?_ | with_reducible refine Sim.cf ?_ | with_reducible refine Sim.ctb ?_ | with_reducible refine Sim.cfb ?_))
  first | refine sim_op (must_m _ _) (fun _ h => nomatch h) fun x b => ?_ | refine sim_op1 (must_m _ _) (fun _ h => nomatch h) fun x b => ?_
  (repeat (first | with_reducible refine Sim.assoc ?_ | with_reducible refine Sim.pb ?_ | with_reducible refine Sim.ct ?_ | with_reducible refine Sim.cf ?_ | with_reducible refine Sim.ctb ?_ | with_reducible refine Sim.cfb ?_))
  first | refine sim_op (optional_m hR _) (fun _ h => nomatch h) fun r6 nr6 => ?_ | refine sim_op1 (optional_m hR _) (fun _ h => nomatch h) fun r6 nr6 => ?_
  (repeat (first | with_reducible refine Sim.assoc ?_ | with_reducible refine Sim.pb ?_ | with_reducible refine Sim.ct ?_ | with_reducible refine Sim.cf ?_ | with_reducible refine Sim.ctb ?_ | with_reducible refine Sim.cfb ?_))
  first | refine sim_op (hR.block _) (fun _ h => nomatch h) fun r7 nr7 => ?_ | refine sim_op1 (hR.block _) (fun _ h => nomatch h) fun r7 nr7 => ?_
  refine sim_node [r2, r4, r6, r7] [nr2, nr4, nr6, nr7] rfl (by decide) (by decide) (by kernel_rfl) (fun F hF => (.cons _ _ _ _ (hF (NodeF nr2 r2) (by repeat (first | exact List.mem_cons_self .. | apply List.mem_cons_of_mem))) (.cons _ _ _ _ (hF (NodeF nr4 r4) (by repeat (first | exact List.mem_cons_self .. | apply List.mem_cons_of_mem))) (.cons _ _ _ _ (hF (NodeF nr6 r6) (by repeat (first | exact List.mem_cons_self .. | apply List.mem_cons_of_mem))) (.cons _ _ _ _ (hF (NodeF nr7 r7) (by repeat (first | exact List.mem_cons_self .. | apply List.mem_cons_of_mem))) .nil))))) fun r9 => ?_
  (repeat (first | with_reducible refine Sim.assoc ?_ | with_reducible refine Sim.pb ?_ | with_reducible refine Sim.ct ?_ | with_reducible refine Sim.cf ?_ | with_reducible refine Sim.ctb ?_ | with_reducible refine Sim.cfb ?_))
  exact sim_ret1 (t := tP) _ rfl (fun F hF => hF _ (by repeat (first | exact List.mem_cons_self .. | apply List.mem_cons_of_mem)))
theorem may_m {R : PRec} (hR : PRecM R) (pb b : Nat) (e : ByteArray) : Meets PG (PI pb) (callS F_parser_loop_1 #[.string e, .pointer (some (pAt b))]) tP (mayS R e) NodeF [Fact.at b (blk T_Psyntax_parser [.pointer (some (pAt pb))])] := by
  refine c_parser_loop_1 e (pAt b) ?_
  unfold t_parser_loop_1 mayS
  refine sim_ldF (b1 := .ptr) _ (by repeat (first | exact List.mem_cons_self .. | apply List.mem_cons_of_mem)) (by kernel_rfl) rfl rfl ?_
  (repeat (first | with_reducible refine Sim.assoc ?_ | with_reducible refine Sim.pb ?_ | with_reducible refine Sim.ct ?_ | with_reducible refine Sim.cf ?_ | with_reducible refine Sim.ctb ?_ | with_reducible refine Sim.cfb ?_))
  first | refine sim_op (none_m _) (fun _ h => nomatch h) fun r2 nr2 => ?_ | refine sim_op1 (none_m _) (fun _ h => nomatch h) fun r2 nr2 => ?_
  refine sim_ldF (b1 := .ptr) _ (by repeat (first | exact List.mem_cons_self .. | apply List.mem_cons_of_mem)) (by kernel_rfl) rfl rfl ?_
  (repeat (first | with_reducible refine Sim.assoc ?_ | with_reducible refine Sim.pb ?_ | with_reducible refine Sim.ct ?_ | with_reducible refine Sim.cf ?_ | with_reducible refine Sim.ctb ?_ | with_reducible refine Sim.cfb ?_))
  first | refine sim_op (is_m _ _) (fun _ h => nomatch h) fun r4 b => Sim.prop fun h => ?_ | refine sim_op1 (is_m _ _) (fun _ h => nomatch h) fun r4 b => Sim.prop fun h => ?_
  subst h
  (repeat (first | with_reducible refine Sim.assoc ?_ | with_reducible refine Sim.pb ?_ | with_reducible refine Sim.ct ?_ | with_reducible refine Sim.cf ?_ | with_reducible refine Sim.ctb ?_ | with_reducible refine Sim.cfb ?_))
  (first | refine sim_cond (fun h => ?_) (fun h => ?_) | refine sim_condb (fun h => ?_) (fun h => ?_) | refine sim_condn (fun h => ?_) (fun h => ?_) | refine sim_condnb (fun h => ?_) (fun h => ?_) | refine sim_ite (fun h => ?_) (fun h => ?_)) -- (!r4)
  · skip
    refine sim_ldF (b1 := .ptr) _ (by repeat (first | exact List.mem_cons_self .. | apply List.mem_cons_of_mem)) (by kernel_rfl) rfl rfl ?_
    (repeat (first | with_reducible refine Sim.assoc ?_ | with_reducible refine Sim.pb ?_ | with_reducible refine Sim.ct ?_ | with_reducible refine Sim.cf ?_ | with_reducible refine Sim.ctb ?_ | with_reducible refine Sim.cfb ?_))
    first | refine sim_op (hR.expr _) (fun _ h => nomatch h) fun r6 nr6 => ?_ | refine sim_op1 (hR.expr _) (fun _ h => nomatch h) fun r6 nr6 => ?_
    refine sim_ldF (b1 := .ptr) _ (by repeat (first | exact List.mem_cons_self .. | apply List.mem_cons_of_mem)) (by kernel_rfl) rfl rfl ?_
    (repeat (first | with_reducible refine Sim.assoc ?_ | with_reducible refine Sim.pb ?_ | with_reducible refine Sim.ct ?_ | with_reducible refine Sim.cf ?_ | with_reducible refine Sim.ctb ?_ | with_reducible refine Sim.cfb ?_))
    first | refine sim_op (must_m _ _) (fun _ h => nomatch h) fun x b => ?_ | refine sim_op1 (must_m _ _) (fun _ h => nomatch h) fun x b => ?_
    (repeat (first | with_reducible refine Sim.assoc ?_ | with_reducible refine Sim.pb ?_ | with_reducible refine Sim.ct ?_ | with_reducible refine Sim.cf ?_ | with_reducible refine Sim.ctb ?_ | with_reducible refine Sim.cfb ?_))
    exact sim_ret1 (t := tP) _ rfl (fun F hF => hF _ (by repeat (first | exact List.mem_cons_self .. | apply List.mem_cons_of_mem)))
  · skip
    refine sim_ldF (b1 := .ptr) _ (by repeat (first | exact List.mem_cons_self .. | apply List.mem_cons_of_mem)) (by kernel_rfl) rfl rfl ?_
    (repeat (first | with_reducible refine Sim.assoc ?_ | with_reducible refine Sim.pb ?_ | with_reducible refine Sim.ct ?_ | with_reducible refine Sim.cf ?_ | with_reducible refine Sim.ctb ?_ | with_reducible refine Sim.cfb ?_))
    first | refine sim_op (must_m _ _) (fun _ h => nomatch h) fun x b => ?_ | refine sim_op1 (must_m _ _) (fun _ h => nomatch h) fun x b => ?_
    (repeat (first | with_reducible refine Sim.assoc ?_ | with_reducible refine Sim.pb ?_ | with_reducible refine Sim.ct ?_ | with_reducible refine Sim.cf ?_ | with_reducible refine Sim.ctb ?_ | with_reducible refine Sim.cfb ?_))
    exact sim_ret1 (t := tP) _ rfl (fun F hF => hF _ (by repeat (first | exact List.mem_cons_self .. | apply List.mem_cons_of_mem)))
theorem loop_m {R : PRec} (hR : PRecM R) (pb : Nat) (a1 : Int) : Meets PG (PI pb) (callS F_parser_loop #[.pointer (some (pAt pb)), .int .i64 a1]) tP (loopS R a1) NodeF [] := by
  refine c_parser_loop (pAt pb) a1 ?_
  unfold t_parser_loop loopS
  refine sim_boxF fun br1 => ?_
  refine sim_ldF (b1 := .ptr) _ (by repeat (first | exact List.mem_cons_self .. | apply List.mem_cons_of_mem)) (by kernel_rfl) rfl rfl ?_
  (repeat (first | with_reducible refine Sim.assoc ?_ | with_reducible refine Sim.pb ?_ | with_reducible refine Sim.ct ?_ | with_reducible refine Sim.cf ?_ | with_reducible refine Sim.ctb ?_ | with_reducible refine Sim.cfb ?_))
  first | refine sim_op (must_m _ _) (fun _ h => nomatch h) fun x b => ?_ | refine sim_op1 (must_m _ _) (fun _ h => nomatch h) fun x b => ?_
  first | refine sim_joinBb ?_ fun x18 => ?_ | refine sim_joinBc ?_ fun x18 => ?_
  · skip
    refine sim_ldF (b1 := .ptr) _ (by repeat (first | exact List.mem_cons_self .. | apply List.mem_cons_of_mem)) (by kernel_rfl) rfl rfl ?_
    (repeat (first | with_reducible refine Sim.assoc ?_ | with_reducible refine Sim.pb ?_ | with_reducible refine Sim.ct ?_ | with_reducible refine Sim.cf ?_ | with_reducible refine Sim.ctb ?_ | with_reducible refine Sim.cfb ?_))
    first | refine sim_op (is_m _ _) (fun _ h => nomatch h) fun r5 b => Sim.prop fun h => ?_ | refine sim_op1 (is_m _ _) (fun _ h => nomatch h) fun r5 b => Sim.prop fun h => ?_
    subst h
    (repeat (first | with_reducible refine Sim.assoc ?_ | with_reducible refine Sim.pb ?_ | with_reducible refine Sim.ct ?_ | with_reducible refine Sim.cf ?_ | with_reducible refine Sim.ctb ?_ | with_reducible refine Sim.cfb ?_))
    (first | refine sim_cond (fun h => ?_) (fun h => ?_) | refine sim_condb (fun h => ?_) (fun h => ?_) | refine sim_condn (fun h => ?_) (fun h => ?_) | refine sim_condnb (fun h => ?_) (fun h => ?_) | refine sim_ite (fun h => ?_) (fun h => ?_)) -- r5
    · skip
      refine sim_ldF (b1 := .ptr) _ (by repeat (first | exact List.mem_cons_self .. | apply List.mem_cons_of_mem)) (by kernel_rfl) rfl rfl ?_
      (repeat (first | with_reducible refine Sim.assoc ?_ | with_reducible refine Sim.pb ?_ | with_reducible refine Sim.ct ?_ | with_reducible refine Sim.cf ?_ | with_reducible refine Sim.ctb ?_ | with_reducible refine Sim.cfb ?_))
      first | refine sim_op (then_m _ _ (by decide) (by decide)) (fun _ h => nomatch h) fun r7 b => Sim.prop fun h => ?_ | refine sim_op1 (then_m _ _ (by decide) (by decide)) (fun _ h => nomatch h) fun r7 b => Sim.prop fun h => ?_
      subst h
      (repeat (first | with_reducible refine Sim.assoc ?_ | with_reducible refine Sim.pb ?_ | with_reducible refine Sim.ct ?_ | with_reducible refine Sim.cf ?_ | with_reducible refine Sim.ctb ?_ | with_reducible refine Sim.cfb ?_))
      (first | refine sim_cond (fun h => ?_) (fun h => ?_) | refine sim_condb (fun h => ?_) (fun h => ?_) | refine sim_condn (fun h => ?_) (fun h => ?_) | refine sim_condnb (fun h => ?_) (fun h => ?_) | refine sim_ite (fun h => ?_) (fun h => ?_)) -- ((r7.1 : Int) == 1)
      · skip
        refine sim_ldF (b1 := .ptr) _ (by repeat (first | exact List.mem_cons_self .. | apply List.mem_cons_of_mem)) (by kernel_rfl) rfl rfl ?_
        (repeat (first | with_reducible refine Sim.assoc ?_ | with_reducible refine Sim.pb ?_ | with_reducible refine Sim.ct ?_ | with_reducible refine Sim.cf ?_ | with_reducible refine Sim.ctb ?_ | with_reducible refine Sim.cfb ?_))
        first | refine sim_op (then_m _ _ (by decide) (by decide)) (fun _ h => nomatch h) fun r9 b => Sim.prop fun h => ?_ | refine sim_op1 (then_m _ _ (by decide) (by decide)) (fun _ h => nomatch h) fun r9 b => Sim.prop fun h => ?_
        subst h
        refine sim_val (says_m _ _ _) (fun _ h => nomatch h) ?_
        exact sim_outB _ rfl (by first | rfl | (simp only [Tok.kind] at *; simp_all))
      · skip
        exact sim_outB _ rfl (by first | rfl | (simp only [Tok.kind] at *; simp_all))
    · skip
      refine sim_ldF (b1 := .ptr) _ (by repeat (first | exact List.mem_cons_self .. | apply List.mem_cons_of_mem)) (by kernel_rfl) rfl rfl ?_
      (repeat (first | with_reducible refine Sim.assoc ?_ | with_reducible refine Sim.pb ?_ | with_reducible refine Sim.ct ?_ | with_reducible refine Sim.cf ?_ | with_reducible refine Sim.ctb ?_ | with_reducible refine Sim.cfb ?_))
      first | refine sim_op (is_m _ _) (fun _ h => nomatch h) fun r12 b => Sim.prop fun h => ?_ | refine sim_op1 (is_m _ _) (fun _ h => nomatch h) fun r12 b => Sim.prop fun h => ?_
      subst h
      (repeat (first | with_reducible refine Sim.assoc ?_ | with_reducible refine Sim.pb ?_ | with_reducible refine Sim.ct ?_ | with_reducible refine Sim.cf ?_ | with_reducible refine Sim.ctb ?_ | with_reducible refine Sim.cfb ?_))
      (first | refine sim_cond (fun h => ?_) (fun h => ?_) | refine sim_condb (fun h => ?_) (fun h => ?_) | refine sim_condn (fun h => ?_) (fun h => ?_) | refine sim_condnb (fun h => ?_) (fun h => ?_) | refine sim_ite (fun h => ?_) (fun h => ?_)) -- r12
      · skip
        refine sim_ldF (b1 := .ptr) _ (by repeat (first | exact List.mem_cons_self .. | apply List.mem_cons_of_mem)) (by kernel_rfl) rfl rfl ?_
        (repeat (first | with_reducible refine Sim.assoc ?_ | with_reducible refine Sim.pb ?_ | with_reducible refine Sim.ct ?_ | with_reducible refine Sim.cf ?_ | with_reducible refine Sim.ctb ?_ | with_reducible refine Sim.cfb ?_))
        first | refine sim_op (then_m _ _ (by decide) (by decide)) (fun _ h => nomatch h) fun r14 b => Sim.prop fun h => ?_ | refine sim_op1 (then_m _ _ (by decide) (by decide)) (fun _ h => nomatch h) fun r14 b => Sim.prop fun h => ?_
        subst h
        (repeat (first | with_reducible refine Sim.assoc ?_ | with_reducible refine Sim.pb ?_ | with_reducible refine Sim.ct ?_ | with_reducible refine Sim.cf ?_ | with_reducible refine Sim.ctb ?_ | with_reducible refine Sim.cfb ?_))
        (first | refine sim_cond (fun h => ?_) (fun h => ?_) | refine sim_condb (fun h => ?_) (fun h => ?_) | refine sim_condn (fun h => ?_) (fun h => ?_) | refine sim_condnb (fun h => ?_) (fun h => ?_) | refine sim_ite (fun h => ?_) (fun h => ?_)) -- ((r14.1 : Int) == 1)
        · skip
          refine sim_ldF (b1 := .ptr) _ (by repeat (first | exact List.mem_cons_self .. | apply List.mem_cons_of_mem)) (by kernel_rfl) rfl rfl ?_
          (repeat (first | with_reducible refine Sim.assoc ?_ | with_reducible refine Sim.pb ?_ | with_reducible refine Sim.ct ?_ | with_reducible refine Sim.cf ?_ | with_reducible refine Sim.ctb ?_ | with_reducible refine Sim.cfb ?_))
          first | refine sim_op (then_m _ _ (by decide) (by decide)) (fun _ h => nomatch h) fun r16 b => Sim.prop fun h => ?_ | refine sim_op1 (then_m _ _ (by decide) (by decide)) (fun _ h => nomatch h) fun r16 b => Sim.prop fun h => ?_
          subst h
          refine sim_val (says_m _ _ _) (fun _ h => nomatch h) ?_
          exact sim_outB _ rfl (by first | rfl | (simp only [Tok.kind] at *; simp_all))
        · skip
          exact sim_outB _ rfl (by first | rfl | (simp only [Tok.kind] at *; simp_all))
      · skip
        exact sim_outB _ rfl (by first | rfl | (simp only [Tok.kind] at *; simp_all))
  · skip
    (repeat (first | with_reducible refine Sim.assoc ?_ | with_reducible refine Sim.pb ?_ | with_reducible refine Sim.ct ?_ | with_reducible refine Sim.cf ?_ | with_reducible refine Sim.ctb ?_ | with_reducible refine Sim.cfb ?_))
    (first | refine sim_cond (fun h => ?_) (fun h => ?_) | refine sim_condb (fun h => ?_) (fun h => ?_) | refine sim_condn (fun h => ?_) (fun h => ?_) | refine sim_condnb (fun h => ?_) (fun h => ?_) | refine sim_ite (fun h => ?_) (fun h => ?_)) -- x18.1
    · skip
      refine sim_ldF (b1 := .ptr) _ (by repeat (first | exact List.mem_cons_self .. | apply List.mem_cons_of_mem)) (by kernel_rfl) rfl rfl ?_
      (repeat (first | with_reducible refine Sim.assoc ?_ | with_reducible refine Sim.pb ?_ | with_reducible refine Sim.ct ?_ | with_reducible refine Sim.cf ?_ | with_reducible refine Sim.ctb ?_ | with_reducible refine Sim.cfb ?_))
      first | refine sim_op (next_m _) (fun _ h => nomatch h) fun r20 b => Sim.prop fun h => ?_ | refine sim_op1 (next_m _) (fun _ h => nomatch h) fun r20 b => Sim.prop fun h => ?_
      subst h
      refine sim_joinIb ?_ fun x21 => ?_
      · skip
        (repeat (first | with_reducible refine Sim.assoc ?_ | with_reducible refine Sim.pb ?_ | with_reducible refine Sim.ct ?_ | with_reducible refine Sim.cf ?_ | with_reducible refine Sim.ctb ?_ | with_reducible refine Sim.cfb ?_))
        (first | refine sim_cond (fun h => ?_) (fun h => ?_) | refine sim_condb (fun h => ?_) (fun h => ?_) | refine sim_condn (fun h => ?_) (fun h => ?_) | refine sim_condnb (fun h => ?_) (fun h => ?_) | refine sim_ite (fun h => ?_) (fun h => ?_)) -- (r20.2.1.toList == kconst.toList)
        · skip
          exact sim_outI _ rfl rfl
        · skip
          exact sim_outI _ rfl rfl
      · skip
        refine sim_ldF (b1 := .ptr) _ (by repeat (first | exact List.mem_cons_self .. | apply List.mem_cons_of_mem)) (by kernel_rfl) rfl rfl ?_
        (repeat (first | with_reducible refine Sim.assoc ?_ | with_reducible refine Sim.pb ?_ | with_reducible refine Sim.ct ?_ | with_reducible refine Sim.cf ?_ | with_reducible refine Sim.ctb ?_ | with_reducible refine Sim.cfb ?_))
        first | refine sim_op (name_m _) (fun _ h => nomatch h) fun r23 b => Sim.prop fun h => ?_ | refine sim_op1 (name_m _) (fun _ h => nomatch h) fun r23 b => Sim.prop fun h => ?_
        subst h
        refine sim_ldF (b1 := .ptr) _ (by repeat (first | exact List.mem_cons_self .. | apply List.mem_cons_of_mem)) (by kernel_rfl) rfl rfl ?_
        (repeat (first | with_reducible refine Sim.assoc ?_ | with_reducible refine Sim.pb ?_ | with_reducible refine Sim.ct ?_ | with_reducible refine Sim.cf ?_ | with_reducible refine Sim.ctb ?_ | with_reducible refine Sim.cfb ?_))
        first | refine sim_op (must_m _ _) (fun _ h => nomatch h) fun x b => ?_ | refine sim_op1 (must_m _ _) (fun _ h => nomatch h) fun x b => ?_
        refine sim_ldF (b1 := .ptr) _ (by repeat (first | exact List.mem_cons_self .. | apply List.mem_cons_of_mem)) (by kernel_rfl) rfl rfl ?_
        (repeat (first | with_reducible refine Sim.assoc ?_ | with_reducible refine Sim.pb ?_ | with_reducible refine Sim.ct ?_ | with_reducible refine Sim.cf ?_ | with_reducible refine Sim.ctb ?_ | with_reducible refine Sim.cfb ?_))
        first | refine sim_op (hR.expr _) (fun _ h => nomatch h) fun r27 nr27 => ?_ | refine sim_op1 (hR.expr _) (fun _ h => nomatch h) fun r27 nr27 => ?_
        refine sim_ldF (b1 := .ptr) _ (by repeat (first | exact List.mem_cons_self .. | apply List.mem_cons_of_mem)) (by kernel_rfl) rfl rfl ?_
        (repeat (first | with_reducible refine Sim.assoc ?_ | with_reducible refine Sim.pb ?_ | with_reducible refine Sim.ct ?_ | with_reducible refine Sim.cf ?_ | with_reducible refine Sim.ctb ?_ | with_reducible refine Sim.cfb ?_))
        first | refine sim_op (must_m _ _) (fun _ h => nomatch h) fun x b => ?_ | refine sim_op1 (must_m _ _) (fun _ h => nomatch h) fun x b => ?_
        refine sim_ldF (b1 := .ptr) _ (by repeat (first | exact List.mem_cons_self .. | apply List.mem_cons_of_mem)) (by kernel_rfl) rfl rfl ?_
        (repeat (first | with_reducible refine Sim.assoc ?_ | with_reducible refine Sim.pb ?_ | with_reducible refine Sim.ct ?_ | with_reducible refine Sim.cf ?_ | with_reducible refine Sim.ctb ?_ | with_reducible refine Sim.cfb ?_))
        first | refine sim_op (hR.block _) (fun _ h => nomatch h) fun r31 nr31 => ?_ | refine sim_op1 (hR.block _) (fun _ h => nomatch h) fun r31 nr31 => ?_
        refine sim_node [r27, r31] [nr27, nr31] rfl (by decide) (by decide) (by kernel_rfl) (fun F hF => (.cons _ _ _ _ (hF (NodeF nr27 r27) (by repeat (first | exact List.mem_cons_self .. | apply List.mem_cons_of_mem))) (.cons _ _ _ _ (hF (NodeF nr31 r31) (by repeat (first | exact List.mem_cons_self .. | apply List.mem_cons_of_mem))) .nil))) fun r33 => ?_
        (repeat (first | with_reducible refine Sim.assoc ?_ | with_reducible refine Sim.pb ?_ | with_reducible refine Sim.ct ?_ | with_reducible refine Sim.cf ?_ | with_reducible refine Sim.ctb ?_ | with_reducible refine Sim.cfb ?_))
        exact sim_ret1 (t := tP) _ rfl (fun F hF => hF _ (by repeat (first | exact List.mem_cons_self .. | apply List.mem_cons_of_mem)))
    · skip
      refine sim_ldF (b1 := .ptr) _ (by repeat (first | exact List.mem_cons_self .. | apply List.mem_cons_of_mem)) (by kernel_rfl) rfl rfl ?_
      (repeat (first | with_reducible refine Sim.assoc ?_ | with_reducible refine Sim.pb ?_ | with_reducible refine Sim.ct ?_ | with_reducible refine Sim.cf ?_ | with_reducible refine Sim.ctb ?_ | with_reducible refine Sim.cfb ?_))
      first | refine sim_op (none_m _) (fun _ h => nomatch h) fun r35 nr35 => ?_ | refine sim_op1 (none_m _) (fun _ h => nomatch h) fun r35 nr35 => ?_
      refine sim_ldF (b1 := .ptr) _ (by repeat (first | exact List.mem_cons_self .. | apply List.mem_cons_of_mem)) (by kernel_rfl) rfl rfl ?_
      (repeat (first | with_reducible refine Sim.assoc ?_ | with_reducible refine Sim.pb ?_ | with_reducible refine Sim.ct ?_ | with_reducible refine Sim.cf ?_ | with_reducible refine Sim.ctb ?_ | with_reducible refine Sim.cfb ?_))
      first | refine sim_op (now_m _) (fun _ h => nomatch h) fun r37 b => Sim.prop fun h => ?_ | refine sim_op1 (now_m _) (fun _ h => nomatch h) fun r37 b => Sim.prop fun h => ?_
      subst h
      refine sim_ldF (b1 := .ptr) _ (by repeat (first | exact List.mem_cons_self .. | apply List.mem_cons_of_mem)) (by kernel_rfl) rfl rfl ?_
      (repeat (first | with_reducible refine Sim.assoc ?_ | with_reducible refine Sim.pb ?_ | with_reducible refine Sim.ct ?_ | with_reducible refine Sim.cf ?_ | with_reducible refine Sim.ctb ?_ | with_reducible refine Sim.cfb ?_))
      first | refine sim_op (take_m _ _) (fun _ h => nomatch h) fun r39 b => Sim.prop fun h => ?_ | refine sim_op1 (take_m _ _) (fun _ h => nomatch h) fun r39 b => Sim.prop fun h => ?_
      subst h
      refine sim_joinPb NodeF ?_ fun nx42 x42 => ?_
      · skip
        (repeat (first | with_reducible refine Sim.assoc ?_ | with_reducible refine Sim.pb ?_ | with_reducible refine Sim.ct ?_ | with_reducible refine Sim.cf ?_ | with_reducible refine Sim.ctb ?_ | with_reducible refine Sim.cfb ?_))
        (first | refine sim_cond (fun h => ?_) (fun h => ?_) | refine sim_condb (fun h => ?_) (fun h => ?_) | refine sim_condn (fun h => ?_) (fun h => ?_) | refine sim_condnb (fun h => ?_) (fun h => ?_) | refine sim_ite (fun h => ?_) (fun h => ?_)) -- r39
        · skip
          refine sim_ldF (b1 := .ptr) _ (by repeat (first | exact List.mem_cons_self .. | apply List.mem_cons_of_mem)) (by kernel_rfl) rfl rfl ?_
          (repeat (first | with_reducible refine Sim.assoc ?_ | with_reducible refine Sim.pb ?_ | with_reducible refine Sim.ct ?_ | with_reducible refine Sim.cf ?_ | with_reducible refine Sim.ctb ?_ | with_reducible refine Sim.cfb ?_))
          first | refine sim_op (variable_m hR _ _ _) (fun _ h => nomatch h) fun r41 nr41 => ?_ | refine sim_op1 (variable_m hR _ _ _) (fun _ h => nomatch h) fun r41 nr41 => ?_
          exact sim_outP _ rfl rfl (fun F hF => hF _ (by repeat (first | exact List.mem_cons_self .. | apply List.mem_cons_of_mem)))
        · skip
          exact sim_outP _ rfl rfl (fun F hF => hF _ (by repeat (first | exact List.mem_cons_self .. | apply List.mem_cons_of_mem)))
      · skip
        refine sim_ldF (b1 := .ptr) _ (by repeat (first | exact List.mem_cons_self .. | apply List.mem_cons_of_mem)) (by kernel_rfl) rfl rfl ?_
        (repeat (first | with_reducible refine Sim.assoc ?_ | with_reducible refine Sim.pb ?_ | with_reducible refine Sim.ct ?_ | with_reducible refine Sim.cf ?_ | with_reducible refine Sim.ctb ?_ | with_reducible refine Sim.cfb ?_))
        first | refine sim_op (must_m _ _) (fun _ h => nomatch h) fun x b => ?_ | refine sim_op1 (must_m _ _) (fun _ h => nomatch h) fun x b => ?_
        refine sim_op (MeetsO.congr (run_callv4 _ _ _) (may_m hR pb _ k_semi)) (fun A hA => by obtain rfl := List.mem_singleton.1 hA; exact (by repeat (first | exact List.mem_cons_self .. | apply List.mem_cons_of_mem))) fun r45 nr45 => ?_
        refine sim_op (MeetsO.congr (run_callv4 _ _ _) (may_m hR pb _ k_rp)) (fun A hA => by obtain rfl := List.mem_singleton.1 hA; exact (by repeat (first | exact List.mem_cons_self .. | apply List.mem_cons_of_mem))) fun r46 nr46 => ?_
        refine sim_ldF (b1 := .ptr) _ (by repeat (first | exact List.mem_cons_self .. | apply List.mem_cons_of_mem)) (by kernel_rfl) rfl rfl ?_
        (repeat (first | with_reducible refine Sim.assoc ?_ | with_reducible refine Sim.pb ?_ | with_reducible refine Sim.ct ?_ | with_reducible refine Sim.cf ?_ | with_reducible refine Sim.ctb ?_ | with_reducible refine Sim.cfb ?_))
        first | refine sim_op (hR.block _) (fun _ h => nomatch h) fun r48 nr48 => ?_ | refine sim_op1 (hR.block _) (fun _ h => nomatch h) fun r48 nr48 => ?_
        refine sim_node [x42, r45, r46, r48] [nx42, nr45, nr46, nr48] rfl (by decide) (by decide) (by kernel_rfl) (fun F hF => (.cons _ _ _ _ (hF (NodeF nx42 x42) (by repeat (first | exact List.mem_cons_self .. | apply List.mem_cons_of_mem))) (.cons _ _ _ _ (hF (NodeF nr45 r45) (by repeat (first | exact List.mem_cons_self .. | apply List.mem_cons_of_mem))) (.cons _ _ _ _ (hF (NodeF nr46 r46) (by repeat (first | exact List.mem_cons_self .. | apply List.mem_cons_of_mem))) (.cons _ _ _ _ (hF (NodeF nr48 r48) (by repeat (first | exact List.mem_cons_self .. | apply List.mem_cons_of_mem))) .nil))))) fun r50 => ?_
        (repeat (first | with_reducible refine Sim.assoc ?_ | with_reducible refine Sim.pb ?_ | with_reducible refine Sim.ct ?_ | with_reducible refine Sim.cf ?_ | with_reducible refine Sim.ctb ?_ | with_reducible refine Sim.cfb ?_))
        exact sim_ret1 (t := tP) _ rfl (fun F hF => hF _ (by repeat (first | exact List.mem_cons_self .. | apply List.mem_cons_of_mem)))
theorem try_m {R : PRec} (hR : PRecM R) (pb : Nat) (pos : Int) : Meets PG (PI pb) (callS F_parser_try #[.pointer (some (pAt pb)), .int .i64 pos]) tP (tryS R pos) NodeF [] := by
  refine c_parser_try (pAt pb) pos ?_
  unfold t_parser_try tryS
  (repeat (first | with_reducible refine Sim.assoc ?_ | with_reducible refine Sim.pb ?_ | with_reducible refine Sim.ct ?_ | with_reducible refine Sim.cf ?_ | with_reducible refine Sim.ctb ?_ | with_reducible refine Sim.cfb ?_))
  first | refine sim_op (hR.block _) (fun _ h => nomatch h) fun r1 nr1 => ?_ | refine sim_op1 (hR.block _) (fun _ h => nomatch h) fun r1 nr1 => ?_
  (repeat (first | with_reducible refine Sim.assoc ?_ | with_reducible refine Sim.pb ?_ | with_reducible refine Sim.ct ?_ | with_reducible refine Sim.cf ?_ | with_reducible refine Sim.ctb ?_ | with_reducible refine Sim.cfb ?_))
  first | refine sim_op (none_m _) (fun _ h => nomatch h) fun r2 nr2 => ?_ | refine sim_op1 (none_m _) (fun _ h => nomatch h) fun r2 nr2 => ?_
  (repeat (first | with_reducible refine Sim.assoc ?_ | with_reducible refine Sim.pb ?_ | with_reducible refine Sim.ct ?_ | with_reducible refine Sim.cf ?_ | with_reducible refine Sim.ctb ?_ | with_reducible refine Sim.cfb ?_))
  first | refine sim_op (now_m _) (fun _ h => nomatch h) fun r3 b => Sim.prop fun h => ?_ | refine sim_op1 (now_m _) (fun _ h => nomatch h) fun r3 b => Sim.prop fun h => ?_
  subst h
  (repeat (first | with_reducible refine Sim.assoc ?_ | with_reducible refine Sim.pb ?_ | with_reducible refine Sim.ct ?_ | with_reducible refine Sim.cf ?_ | with_reducible refine Sim.ctb ?_ | with_reducible refine Sim.cfb ?_))
  first | refine sim_op (take_m _ _) (fun _ h => nomatch h) fun r4 b => Sim.prop fun h => ?_ | refine sim_op1 (take_m _ _) (fun _ h => nomatch h) fun r4 b => Sim.prop fun h => ?_
  subst h
  refine sim_joinPb NodeF ?_ fun nx11 x11 => ?_
  · skip
    (repeat (first | with_reducible refine Sim.assoc ?_ | with_reducible refine Sim.pb ?_ | with_reducible refine Sim.ct ?_ | with_reducible refine Sim.cf ?_ | with_reducible refine Sim.ctb ?_ | with_reducible refine Sim.cfb ?_))
    (first | refine sim_cond (fun h => ?_) (fun h => ?_) | refine sim_condb (fun h => ?_) (fun h => ?_) | refine sim_condn (fun h => ?_) (fun h => ?_) | refine sim_condnb (fun h => ?_) (fun h => ?_) | refine sim_ite (fun h => ?_) (fun h => ?_)) -- r4
    · skip
      (repeat (first | with_reducible refine Sim.assoc ?_ | with_reducible refine Sim.pb ?_ | with_reducible refine Sim.ct ?_ | with_reducible refine Sim.cf ?_ | with_reducible refine Sim.ctb ?_ | with_reducible refine Sim.cfb ?_))
      first | refine sim_op (must_m _ _) (fun _ h => nomatch h) fun x b => ?_ | refine sim_op1 (must_m _ _) (fun _ h => nomatch h) fun x b => ?_
      (repeat (first | with_reducible refine Sim.assoc ?_ | with_reducible refine Sim.pb ?_ | with_reducible refine Sim.ct ?_ | with_reducible refine Sim.cf ?_ | with_reducible refine Sim.ctb ?_ | with_reducible refine Sim.cfb ?_))
      first | refine sim_op (name_m _) (fun _ h => nomatch h) fun r6 b => Sim.prop fun h => ?_ | refine sim_op1 (name_m _) (fun _ h => nomatch h) fun r6 b => Sim.prop fun h => ?_
      subst h
      (repeat (first | with_reducible refine Sim.assoc ?_ | with_reducible refine Sim.pb ?_ | with_reducible refine Sim.ct ?_ | with_reducible refine Sim.cf ?_ | with_reducible refine Sim.ctb ?_ | with_reducible refine Sim.cfb ?_))
      first | refine sim_op (must_m _ _) (fun _ h => nomatch h) fun x b => ?_ | refine sim_op1 (must_m _ _) (fun _ h => nomatch h) fun x b => ?_
      (repeat (first | with_reducible refine Sim.assoc ?_ | with_reducible refine Sim.pb ?_ | with_reducible refine Sim.ct ?_ | with_reducible refine Sim.cf ?_ | with_reducible refine Sim.ctb ?_ | with_reducible refine Sim.cfb ?_))
      first | refine sim_op (hR.block _) (fun _ h => nomatch h) fun r8 nr8 => ?_ | refine sim_op1 (hR.block _) (fun _ h => nomatch h) fun r8 nr8 => ?_
      refine sim_node [r8] [nr8] rfl (by decide) (by decide) (by kernel_rfl) (fun F hF => (.cons _ _ _ _ (hF (NodeF nr8 r8) (by repeat (first | exact List.mem_cons_self .. | apply List.mem_cons_of_mem))) .nil)) fun r10 => ?_
      exact sim_outP _ rfl rfl (fun F hF => hF _ (by repeat (first | exact List.mem_cons_self .. | apply List.mem_cons_of_mem)))
    · skip
      exact sim_outP _ rfl rfl (fun F hF => hF _ (by repeat (first | exact List.mem_cons_self .. | apply List.mem_cons_of_mem)))
  · skip
    (repeat (first | with_reducible refine Sim.assoc ?_ | with_reducible refine Sim.pb ?_ | with_reducible refine Sim.ct ?_ | with_reducible refine Sim.cf ?_ | with_reducible refine Sim.ctb ?_ | with_reducible refine Sim.cfb ?_))
    first | refine sim_op (none_m _) (fun _ h => nomatch h) fun r12 nr12 => ?_ | refine sim_op1 (none_m _) (fun _ h => nomatch h) fun r12 nr12 => ?_
    (repeat (first | with_reducible refine Sim.assoc ?_ | with_reducible refine Sim.pb ?_ | with_reducible refine Sim.ct ?_ | with_reducible refine Sim.cf ?_ | with_reducible refine Sim.ctb ?_ | with_reducible refine Sim.cfb ?_))
    first | refine sim_op (take_m _ _) (fun _ h => nomatch h) fun r13 b => Sim.prop fun h => ?_ | refine sim_op1 (take_m _ _) (fun _ h => nomatch h) fun r13 b => Sim.prop fun h => ?_
    subst h
    refine sim_joinPb NodeF ?_ fun nx15 x15 => ?_
    · skip
      (repeat (first | with_reducible refine Sim.assoc ?_ | with_reducible refine Sim.pb ?_ | with_reducible refine Sim.ct ?_ | with_reducible refine Sim.cf ?_ | with_reducible refine Sim.ctb ?_ | with_reducible refine Sim.cfb ?_))
      (first | refine sim_cond (fun h => ?_) (fun h => ?_) | refine sim_condb (fun h => ?_) (fun h => ?_) | refine sim_condn (fun h => ?_) (fun h => ?_) | refine sim_condnb (fun h => ?_) (fun h => ?_) | refine sim_ite (fun h => ?_) (fun h => ?_)) -- r13
      · skip
        (repeat (first | with_reducible refine Sim.assoc ?_ | with_reducible refine Sim.pb ?_ | with_reducible refine Sim.ct ?_ | with_reducible refine Sim.cf ?_ | with_reducible refine Sim.ctb ?_ | with_reducible refine Sim.cfb ?_))
        first | refine sim_op (hR.block _) (fun _ h => nomatch h) fun r14 nr14 => ?_ | refine sim_op1 (hR.block _) (fun _ h => nomatch h) fun r14 nr14 => ?_
        exact sim_outP _ rfl rfl (fun F hF => hF _ (by repeat (first | exact List.mem_cons_self .. | apply List.mem_cons_of_mem)))
      · skip
        exact sim_outP _ rfl rfl (fun F hF => hF _ (by repeat (first | exact List.mem_cons_self .. | apply List.mem_cons_of_mem)))
    · skip
      first | refine sim_joinBb ?_ fun x20 => ?_ | refine sim_joinBc ?_ fun x20 => ?_
      · skip
        refine sim_kind (by repeat (first | exact List.mem_cons_self .. | apply List.mem_cons_of_mem)) ?_
        (repeat (first | with_reducible refine Sim.assoc ?_ | with_reducible refine Sim.pb ?_ | with_reducible refine Sim.ct ?_ | with_reducible refine Sim.cf ?_ | with_reducible refine Sim.ctb ?_ | with_reducible refine Sim.cfb ?_))
        refine sim_ite (fun hy => ?_) (fun hy => ?_)
        · skip
          refine sim_kind (by repeat (first | exact List.mem_cons_self .. | apply List.mem_cons_of_mem)) ?_
          exact sim_outB _ rfl (by show cond (_ && _) _ _ = _; rw [show (N.kind _ == 1) = true from hy]; rfl)
        · skip
          exact sim_outB _ rfl (by show cond (_ && _) _ _ = _; rw [show (N.kind _ == 1) = false from hy]; rfl)
      · skip
        (repeat (first | with_reducible refine Sim.assoc ?_ | with_reducible refine Sim.pb ?_ | with_reducible refine Sim.ct ?_ | with_reducible refine Sim.cf ?_ | with_reducible refine Sim.ctb ?_ | with_reducible refine Sim.cfb ?_))
        (first | refine sim_cond (fun h => ?_) (fun h => ?_) | refine sim_condb (fun h => ?_) (fun h => ?_) | refine sim_condn (fun h => ?_) (fun h => ?_) | refine sim_condnb (fun h => ?_) (fun h => ?_) | refine sim_ite (fun h => ?_) (fun h => ?_)) -- x20.1
        · skip
          exact sim_fails (β1 := Unit) (Rel1 := fun _ _ _ => Fact.prop True) (fail_m _) (fun _ h => nomatch h) (by first | exact errs_fail | exact errs_failb _)
        · skip
          refine sim_node [r1, x11, x15] [nr1, nx11, nx15] rfl (by decide) (by decide) (by kernel_rfl) (fun F hF => (.cons _ _ _ _ (hF (NodeF nr1 r1) (by repeat (first | exact List.mem_cons_self .. | apply List.mem_cons_of_mem))) (.cons _ _ _ _ (hF (NodeF nx11 x11) (by repeat (first | exact List.mem_cons_self .. | apply List.mem_cons_of_mem))) (.cons _ _ _ _ (hF (NodeF nx15 x15) (by repeat (first | exact List.mem_cons_self .. | apply List.mem_cons_of_mem))) .nil)))) fun r25 => ?_
          (repeat (first | with_reducible refine Sim.assoc ?_ | with_reducible refine Sim.pb ?_ | with_reducible refine Sim.ct ?_ | with_reducible refine Sim.cf ?_ | with_reducible refine Sim.ctb ?_ | with_reducible refine Sim.cfb ?_))
          exact sim_ret1 (t := tP) _ rfl (fun F hF => hF _ (by repeat (first | exact List.mem_cons_self .. | apply List.mem_cons_of_mem)))
theorem branch_m {R : PRec} (hR : PRecM R) (pb : Nat) : Meets PG (PI pb) (callS F_parser_branch #[.pointer (some (pAt pb))]) tP (branchS R) NodeF [] := by
  refine c_parser_branch (pAt pb) ?_
  unfold t_parser_branch branchS
  (repeat (first | with_reducible refine Sim.assoc ?_ | with_reducible refine Sim.pb ?_ | with_reducible refine Sim.ct ?_ | with_reducible refine Sim.cf ?_ | with_reducible refine Sim.ctb ?_ | with_reducible refine Sim.cfb ?_))
  first | refine sim_op (now_m _) (fun _ h => nomatch h) fun r1 b => Sim.prop fun h => ?_ | refine sim_op1 (now_m _) (fun _ h => nomatch h) fun r1 b => Sim.prop fun h => ?_
  subst h
  (repeat (first | with_reducible refine Sim.assoc ?_ | with_reducible refine Sim.pb ?_ | with_reducible refine Sim.ct ?_ | with_reducible refine Sim.cf ?_ | with_reducible refine Sim.ctb ?_ | with_reducible refine Sim.cfb ?_))
  first | refine sim_op (must_m _ _) (fun _ h => nomatch h) fun x b => ?_ | refine sim_op1 (must_m _ _) (fun _ h => nomatch h) fun x b => ?_
  (repeat (first | with_reducible refine Sim.assoc ?_ | with_reducible refine Sim.pb ?_ | with_reducible refine Sim.ct ?_ | with_reducible refine Sim.cf ?_ | with_reducible refine Sim.ctb ?_ | with_reducible refine Sim.cfb ?_))
  first | refine sim_op (round_m hR _) (fun _ h => nomatch h) fun r3 nr3 => ?_ | refine sim_op1 (round_m hR _) (fun _ h => nomatch h) fun r3 nr3 => ?_
  (repeat (first | with_reducible refine Sim.assoc ?_ | with_reducible refine Sim.pb ?_ | with_reducible refine Sim.ct ?_ | with_reducible refine Sim.cf ?_ | with_reducible refine Sim.ctb ?_ | with_reducible refine Sim.cfb ?_))
  first | refine sim_op (hR.block _) (fun _ h => nomatch h) fun r4 nr4 => ?_ | refine sim_op1 (hR.block _) (fun _ h => nomatch h) fun r4 nr4 => ?_
  (repeat (first | with_reducible refine Sim.assoc ?_ | with_reducible refine Sim.pb ?_ | with_reducible refine Sim.ct ?_ | with_reducible refine Sim.cf ?_ | with_reducible refine Sim.ctb ?_ | with_reducible refine Sim.cfb ?_))
  first | refine sim_op (none_m _) (fun _ h => nomatch h) fun r5 nr5 => ?_ | refine sim_op1 (none_m _) (fun _ h => nomatch h) fun r5 nr5 => ?_
  (repeat (first | with_reducible refine Sim.assoc ?_ | with_reducible refine Sim.pb ?_ | with_reducible refine Sim.ct ?_ | with_reducible refine Sim.cf ?_ | with_reducible refine Sim.ctb ?_ | with_reducible refine Sim.cfb ?_))
  first | refine sim_op (take_m _ _) (fun _ h => nomatch h) fun r6 b => Sim.prop fun h => ?_ | refine sim_op1 (take_m _ _) (fun _ h => nomatch h) fun r6 b => Sim.prop fun h => ?_
  subst h
  (repeat (first | with_reducible refine Sim.assoc ?_ | with_reducible refine Sim.pb ?_ | with_reducible refine Sim.ct ?_ | with_reducible refine Sim.cf ?_ | with_reducible refine Sim.ctb ?_ | with_reducible refine Sim.cfb ?_))
  (first | refine sim_cond (fun h => ?_) (fun h => ?_) | refine sim_condb (fun h => ?_) (fun h => ?_) | refine sim_condn (fun h => ?_) (fun h => ?_) | refine sim_condnb (fun h => ?_) (fun h => ?_) | refine sim_ite (fun h => ?_) (fun h => ?_)) -- r6
  · skip
    (repeat (first | with_reducible refine Sim.assoc ?_ | with_reducible refine Sim.pb ?_ | with_reducible refine Sim.ct ?_ | with_reducible refine Sim.cf ?_ | with_reducible refine Sim.ctb ?_ | with_reducible refine Sim.cfb ?_))
    first | refine sim_op (is_m _ _) (fun _ h => nomatch h) fun r7 b => Sim.prop fun h => ?_ | refine sim_op1 (is_m _ _) (fun _ h => nomatch h) fun r7 b => Sim.prop fun h => ?_
    subst h
    (repeat (first | with_reducible refine Sim.assoc ?_ | with_reducible refine Sim.pb ?_ | with_reducible refine Sim.ct ?_ | with_reducible refine Sim.cf ?_ | with_reducible refine Sim.ctb ?_ | with_reducible refine Sim.cfb ?_))
    (first | refine sim_cond (fun h => ?_) (fun h => ?_) | refine sim_condb (fun h => ?_) (fun h => ?_) | refine sim_condn (fun h => ?_) (fun h => ?_) | refine sim_condnb (fun h => ?_) (fun h => ?_) | refine sim_ite (fun h => ?_) (fun h => ?_)) -- r7
    · skip
      (repeat (first | with_reducible refine Sim.assoc ?_ | with_reducible refine Sim.pb ?_ | with_reducible refine Sim.ct ?_ | with_reducible refine Sim.cf ?_ | with_reducible refine Sim.ctb ?_ | with_reducible refine Sim.cfb ?_))
      first | refine sim_op (hR.branch _) (fun _ h => nomatch h) fun r8 nr8 => ?_ | refine sim_op1 (hR.branch _) (fun _ h => nomatch h) fun r8 nr8 => ?_
      refine sim_node [r3, r4, r8] [nr3, nr4, nr8] rfl (by decide) (by decide) (by kernel_rfl) (fun F hF => (.cons _ _ _ _ (hF (NodeF nr3 r3) (by repeat (first | exact List.mem_cons_self .. | apply List.mem_cons_of_mem))) (.cons _ _ _ _ (hF (NodeF nr4 r4) (by repeat (first | exact List.mem_cons_self .. | apply List.mem_cons_of_mem))) (.cons _ _ _ _ (hF (NodeF nr8 r8) (by repeat (first | exact List.mem_cons_self .. | apply List.mem_cons_of_mem))) .nil)))) fun r10 => ?_
      (repeat (first | with_reducible refine Sim.assoc ?_ | with_reducible refine Sim.pb ?_ | with_reducible refine Sim.ct ?_ | with_reducible refine Sim.cf ?_ | with_reducible refine Sim.ctb ?_ | with_reducible refine Sim.cfb ?_))
      exact sim_ret1 (t := tP) _ rfl (fun F hF => hF _ (by repeat (first | exact List.mem_cons_self .. | apply List.mem_cons_of_mem)))
    · skip
      (repeat (first | with_reducible refine Sim.assoc ?_ | with_reducible refine Sim.pb ?_ | with_reducible refine Sim.ct ?_ | with_reducible refine Sim.cf ?_ | with_reducible refine Sim.ctb ?_ | with_reducible refine Sim.cfb ?_))
      first | refine sim_op (hR.block _) (fun _ h => nomatch h) fun r11 nr11 => ?_ | refine sim_op1 (hR.block _) (fun _ h => nomatch h) fun r11 nr11 => ?_
      refine sim_node [r3, r4, r11] [nr3, nr4, nr11] rfl (by decide) (by decide) (by kernel_rfl) (fun F hF => (.cons _ _ _ _ (hF (NodeF nr3 r3) (by repeat (first | exact List.mem_cons_self .. | apply List.mem_cons_of_mem))) (.cons _ _ _ _ (hF (NodeF nr4 r4) (by repeat (first | exact List.mem_cons_self .. | apply List.mem_cons_of_mem))) (.cons _ _ _ _ (hF (NodeF nr11 r11) (by repeat (first | exact List.mem_cons_self .. | apply List.mem_cons_of_mem))) .nil)))) fun r13 => ?_
      (repeat (first | with_reducible refine Sim.assoc ?_ | with_reducible refine Sim.pb ?_ | with_reducible refine Sim.ct ?_ | with_reducible refine Sim.cf ?_ | with_reducible refine Sim.ctb ?_ | with_reducible refine Sim.cfb ?_))
      exact sim_ret1 (t := tP) _ rfl (fun F hF => hF _ (by repeat (first | exact List.mem_cons_self .. | apply List.mem_cons_of_mem)))
  · skip
    refine sim_node [r3, r4, r5] [nr3, nr4, nr5] rfl (by decide) (by decide) (by kernel_rfl) (fun F hF => (.cons _ _ _ _ (hF (NodeF nr3 r3) (by repeat (first | exact List.mem_cons_self .. | apply List.mem_cons_of_mem))) (.cons _ _ _ _ (hF (NodeF nr4 r4) (by repeat (first | exact List.mem_cons_self .. | apply List.mem_cons_of_mem))) (.cons _ _ _ _ (hF (NodeF nr5 r5) (by repeat (first | exact List.mem_cons_self .. | apply List.mem_cons_of_mem))) .nil)))) fun r15 => ?_
    (repeat (first | with_reducible refine Sim.assoc ?_ | with_reducible refine Sim.pb ?_ | with_reducible refine Sim.ct ?_ | with_reducible refine Sim.cf ?_ | with_reducible refine Sim.ctb ?_ | with_reducible refine Sim.cfb ?_))
    exact sim_ret1 (t := tP) _ rfl (fun F hF => hF _ (by repeat (first | exact List.mem_cons_self .. | apply List.mem_cons_of_mem)))
theorem part_m {R : PRec} (hR : PRecM R) (pb : Nat) : Meets PG (PI pb) (callS F_parser_part #[.pointer (some (pAt pb))]) tP (partS R) NodeF [] := by
  refine c_parser_part (pAt pb) ?_
  unfold t_parser_part partS
  (repeat (first | with_reducible refine Sim.assoc ?_ | with_reducible refine Sim.pb ?_ | with_reducible refine Sim.ct ?_ | with_reducible refine Sim.cf ?_ | with_reducible refine Sim.ctb ?_ | with_reducible refine Sim.cfb ?_))
  first | refine sim_op (now_m _) (fun _ h => nomatch h) fun r1 b => Sim.prop fun h => ?_ | refine sim_op1 (now_m _) (fun _ h => nomatch h) fun r1 b => Sim.prop fun h => ?_
  subst h
  (repeat (first | with_reducible refine Sim.assoc ?_ | with_reducible refine Sim.pb ?_ | with_reducible refine Sim.ct ?_ | with_reducible refine Sim.cf ?_ | with_reducible refine Sim.ctb ?_ | with_reducible refine Sim.cfb ?_))
  first | refine sim_op (take_m _ _) (fun _ h => nomatch h) fun r2 b => Sim.prop fun h => ?_ | refine sim_op1 (take_m _ _) (fun _ h => nomatch h) fun r2 b => Sim.prop fun h => ?_
  subst h
  (repeat (first | with_reducible refine Sim.assoc ?_ | with_reducible refine Sim.pb ?_ | with_reducible refine Sim.ct ?_ | with_reducible refine Sim.cf ?_ | with_reducible refine Sim.ctb ?_ | with_reducible refine Sim.cfb ?_))
  (first | refine sim_cond (fun h => ?_) (fun h => ?_) | refine sim_condb (fun h => ?_) (fun h => ?_) | refine sim_condn (fun h => ?_) (fun h => ?_) | refine sim_condnb (fun h => ?_) (fun h => ?_) | refine sim_ite (fun h => ?_) (fun h => ?_)) -- r2
  · skip
    (repeat (first | with_reducible refine Sim.assoc ?_ | with_reducible refine Sim.pb ?_ | with_reducible refine Sim.ct ?_ | with_reducible refine Sim.cf ?_ | with_reducible refine Sim.ctb ?_ | with_reducible refine Sim.cfb ?_))
    first | refine sim_op (must_m _ _) (fun _ h => nomatch h) fun x b => ?_ | refine sim_op1 (must_m _ _) (fun _ h => nomatch h) fun x b => ?_
    (repeat (first | with_reducible refine Sim.assoc ?_ | with_reducible refine Sim.pb ?_ | with_reducible refine Sim.ct ?_ | with_reducible refine Sim.cf ?_ | with_reducible refine Sim.ctb ?_ | with_reducible refine Sim.cfb ?_))
    first | refine sim_op (params_m hR _ _) (fun _ h => nomatch h) fun r4 nr4 => ?_ | refine sim_op1 (params_m hR _ _) (fun _ h => nomatch h) fun r4 nr4 => ?_
    (repeat (first | with_reducible refine Sim.assoc ?_ | with_reducible refine Sim.pb ?_ | with_reducible refine Sim.ct ?_ | with_reducible refine Sim.cf ?_ | with_reducible refine Sim.ctb ?_ | with_reducible refine Sim.cfb ?_))
    first | refine sim_op (must_m _ _) (fun _ h => nomatch h) fun x b => ?_ | refine sim_op1 (must_m _ _) (fun _ h => nomatch h) fun x b => ?_
    (repeat (first | with_reducible refine Sim.assoc ?_ | with_reducible refine Sim.pb ?_ | with_reducible refine Sim.ct ?_ | with_reducible refine Sim.cf ?_ | with_reducible refine Sim.ctb ?_ | with_reducible refine Sim.cfb ?_))
    first | refine sim_op (hR.block _) (fun _ h => nomatch h) fun r6 nr6 => ?_ | refine sim_op1 (hR.block _) (fun _ h => nomatch h) fun r6 nr6 => ?_
    refine sim_node [r4, r6] [nr4, nr6] rfl (by decide) (by decide) (by kernel_rfl) (fun F hF => (.cons _ _ _ _ (hF (NodeF nr4 r4) (by repeat (first | exact List.mem_cons_self .. | apply List.mem_cons_of_mem))) (.cons _ _ _ _ (hF (NodeF nr6 r6) (by repeat (first | exact List.mem_cons_self .. | apply List.mem_cons_of_mem))) .nil))) fun r8 => ?_
    (repeat (first | with_reducible refine Sim.assoc ?_ | with_reducible refine Sim.pb ?_ | with_reducible refine Sim.ct ?_ | with_reducible refine Sim.cf ?_ | with_reducible refine Sim.ctb ?_ | with_reducible refine Sim.cfb ?_))
    exact sim_ret1 (t := tP) _ rfl (fun F hF => hF _ (by repeat (first | exact List.mem_cons_self .. | apply List.mem_cons_of_mem)))
  · skip
    (repeat (first | with_reducible refine Sim.assoc ?_ | with_reducible refine Sim.pb ?_ | with_reducible refine Sim.ct ?_ | with_reducible refine Sim.cf ?_ | with_reducible refine Sim.ctb ?_ | with_reducible refine Sim.cfb ?_))
    first | refine sim_op (then_m _ _ (by decide) (by decide)) (fun _ h => nomatch h) fun r9 b => Sim.prop fun h => ?_ | refine sim_op1 (then_m _ _ (by decide) (by decide)) (fun _ h => nomatch h) fun r9 b => Sim.prop fun h => ?_
    subst h
    refine sim_varF (c := true) (z := [.int .i64 0, .string kE, .int .i64 0, .int .i64 0]) (by kernel_rfl) (by kernel_rfl) rfl (by simp [Value.cells, Value.oneCell']) fun br10 => ?_
    first | refine sim_joinBb ?_ fun x17 => ?_ | refine sim_joinBc ?_ fun x17 => ?_
    · skip
      (repeat (first | with_reducible refine Sim.assoc ?_ | with_reducible refine Sim.pb ?_ | with_reducible refine Sim.ct ?_ | with_reducible refine Sim.cf ?_ | with_reducible refine Sim.ctb ?_ | with_reducible refine Sim.cfb ?_))
      first | refine sim_op (now_m _) (fun _ h => nomatch h) fun r12 b => Sim.prop fun h => ?_ | refine sim_op1 (now_m _) (fun _ h => nomatch h) fun r12 b => Sim.prop fun h => ?_
      subst h
      (repeat (first | with_reducible refine Sim.assoc ?_ | with_reducible refine Sim.pb ?_ | with_reducible refine Sim.ct ?_ | with_reducible refine Sim.cf ?_ | with_reducible refine Sim.ctb ?_ | with_reducible refine Sim.cfb ?_))
      (first | refine sim_cond (fun h => ?_) (fun h => ?_) | refine sim_condb (fun h => ?_) (fun h => ?_) | refine sim_condn (fun h => ?_) (fun h => ?_) | refine sim_condnb (fun h => ?_) (fun h => ?_) | refine sim_ite (fun h => ?_) (fun h => ?_)) -- ((r12.1 : Int) == 1)
      · skip
        refine sim_ldFA (bs := bsTok) (_, _, _, _, ()) (by repeat (first | exact List.mem_cons_self .. | apply List.mem_cons_of_mem)) (by kernel_rfl) rfl rfl ?_
        refine sim_val (says_m _ _ _) (fun _ h => nomatch h) ?_
        (repeat (first | with_reducible refine Sim.assoc ?_ | with_reducible refine Sim.pb ?_ | with_reducible refine Sim.ct ?_ | with_reducible refine Sim.cf ?_ | with_reducible refine Sim.ctb ?_ | with_reducible refine Sim.cfb ?_))
        (first | refine sim_cond (fun h => ?_) (fun h => ?_) | refine sim_condb (fun h => ?_) (fun h => ?_) | refine sim_condn (fun h => ?_) (fun h => ?_) | refine sim_condnb (fun h => ?_) (fun h => ?_) | refine sim_ite (fun h => ?_) (fun h => ?_)) -- r14
        · skip
          exact sim_outB _ rfl (by first | rfl | (simp only [Tok.kind] at *; simp_all))
        · skip
          refine sim_ldFA (bs := bsTok) (_, _, _, _, ()) (by repeat (first | exact List.mem_cons_self .. | apply List.mem_cons_of_mem)) (by kernel_rfl) rfl rfl ?_
          refine sim_val (says_m _ _ _) (fun _ h => nomatch h) ?_
          exact sim_outB _ rfl (by first | rfl | (simp only [Tok.kind] at *; simp_all))
      · skip
        exact sim_outB _ rfl (by first | rfl | (simp only [Tok.kind] at *; simp_all))
    · skip
      (repeat (first | with_reducible refine Sim.assoc ?_ | with_reducible refine Sim.pb ?_ | with_reducible refine Sim.ct ?_ | with_reducible refine Sim.cf ?_ | with_reducible refine Sim.ctb ?_ | with_reducible refine Sim.cfb ?_))
      (first | refine sim_cond (fun h => ?_) (fun h => ?_) | refine sim_condb (fun h => ?_) (fun h => ?_) | refine sim_condn (fun h => ?_) (fun h => ?_) | refine sim_condnb (fun h => ?_) (fun h => ?_) | refine sim_ite (fun h => ?_) (fun h => ?_)) -- x17.1
      · skip
        (repeat (first | with_reducible refine Sim.assoc ?_ | with_reducible refine Sim.pb ?_ | with_reducible refine Sim.ct ?_ | with_reducible refine Sim.cf ?_ | with_reducible refine Sim.ctb ?_ | with_reducible refine Sim.cfb ?_))
        first | refine sim_op (function_m hR _ _ _) (fun _ h => nomatch h) fun r18 nr18 => ?_ | refine sim_op1 (function_m hR _ _ _) (fun _ h => nomatch h) fun r18 nr18 => ?_
        (repeat (first | with_reducible refine Sim.assoc ?_ | with_reducible refine Sim.pb ?_ | with_reducible refine Sim.ct ?_ | with_reducible refine Sim.cf ?_ | with_reducible refine Sim.ctb ?_ | with_reducible refine Sim.cfb ?_))
        exact sim_ret1 (t := tP) _ rfl (fun F hF => hF _ (by repeat (first | exact List.mem_cons_self .. | apply List.mem_cons_of_mem)))
      · skip
        (repeat (first | with_reducible refine Sim.assoc ?_ | with_reducible refine Sim.pb ?_ | with_reducible refine Sim.ct ?_ | with_reducible refine Sim.cf ?_ | with_reducible refine Sim.ctb ?_ | with_reducible refine Sim.cfb ?_))
        first | refine sim_op (take_m _ _) (fun _ h => nomatch h) fun r19 b => Sim.prop fun h => ?_ | refine sim_op1 (take_m _ _) (fun _ h => nomatch h) fun r19 b => Sim.prop fun h => ?_
        subst h
        refine sim_joinIb ?_ fun x20 => ?_
        · skip
          (repeat (first | with_reducible refine Sim.assoc ?_ | with_reducible refine Sim.pb ?_ | with_reducible refine Sim.ct ?_ | with_reducible refine Sim.cf ?_ | with_reducible refine Sim.ctb ?_ | with_reducible refine Sim.cfb ?_))
          (first | refine sim_cond (fun h => ?_) (fun h => ?_) | refine sim_condb (fun h => ?_) (fun h => ?_) | refine sim_condn (fun h => ?_) (fun h => ?_) | refine sim_condnb (fun h => ?_) (fun h => ?_) | refine sim_ite (fun h => ?_) (fun h => ?_)) -- r19
          · skip
            exact sim_outI _ rfl rfl
          · skip
            exact sim_outI _ rfl rfl
        · skip
          (repeat (first | with_reducible refine Sim.assoc ?_ | with_reducible refine Sim.pb ?_ | with_reducible refine Sim.ct ?_ | with_reducible refine Sim.cf ?_ | with_reducible refine Sim.ctb ?_ | with_reducible refine Sim.cfb ?_))
          first | refine sim_op (name_m _) (fun _ h => nomatch h) fun r21 b => Sim.prop fun h => ?_ | refine sim_op1 (name_m _) (fun _ h => nomatch h) fun r21 b => Sim.prop fun h => ?_
          subst h
          (repeat (first | with_reducible refine Sim.assoc ?_ | with_reducible refine Sim.pb ?_ | with_reducible refine Sim.ct ?_ | with_reducible refine Sim.cf ?_ | with_reducible refine Sim.ctb ?_ | with_reducible refine Sim.cfb ?_))
          first | refine sim_op (optional_m hR _) (fun _ h => nomatch h) fun r22 nr22 => ?_ | refine sim_op1 (optional_m hR _) (fun _ h => nomatch h) fun r22 nr22 => ?_
          (repeat (first | with_reducible refine Sim.assoc ?_ | with_reducible refine Sim.pb ?_ | with_reducible refine Sim.ct ?_ | with_reducible refine Sim.cf ?_ | with_reducible refine Sim.ctb ?_ | with_reducible refine Sim.cfb ?_))
          first | refine sim_op (none_m _) (fun _ h => nomatch h) fun r23 nr23 => ?_ | refine sim_op1 (none_m _) (fun _ h => nomatch h) fun r23 nr23 => ?_
          (repeat (first | with_reducible refine Sim.assoc ?_ | with_reducible refine Sim.pb ?_ | with_reducible refine Sim.ct ?_ | with_reducible refine Sim.cf ?_ | with_reducible refine Sim.ctb ?_ | with_reducible refine Sim.cfb ?_))
          first | refine sim_op (take_m _ _) (fun _ h => nomatch h) fun r24 b => Sim.prop fun h => ?_ | refine sim_op1 (take_m _ _) (fun _ h => nomatch h) fun r24 b => Sim.prop fun h => ?_
          subst h
          (repeat (first | with_reducible refine Sim.assoc ?_ | with_reducible refine Sim.pb ?_ | with_reducible refine Sim.ct ?_ | with_reducible refine Sim.cf ?_ | with_reducible refine Sim.ctb ?_ | with_reducible refine Sim.cfb ?_))
          (first | refine sim_cond (fun h => ?_) (fun h => ?_) | refine sim_condb (fun h => ?_) (fun h => ?_) | refine sim_condn (fun h => ?_) (fun h => ?_) | refine sim_condnb (fun h => ?_) (fun h => ?_) | refine sim_ite (fun h => ?_) (fun h => ?_)) -- r24
          · skip
            (repeat (first | with_reducible refine Sim.assoc ?_ | with_reducible refine Sim.pb ?_ | with_reducible refine Sim.ct ?_ | with_reducible refine Sim.cf ?_ | with_reducible refine Sim.ctb ?_ | with_reducible refine Sim.cfb ?_))
            first | refine sim_op (hR.expr _) (fun _ h => nomatch h) fun r25 nr25 => ?_ | refine sim_op1 (hR.expr _) (fun _ h => nomatch h) fun r25 nr25 => ?_
            (repeat (first | with_reducible refine Sim.assoc ?_ | with_reducible refine Sim.pb ?_ | with_reducible refine Sim.ct ?_ | with_reducible refine Sim.cf ?_ | with_reducible refine Sim.ctb ?_ | with_reducible refine Sim.cfb ?_))
            first | refine sim_op (must_m _ _) (fun _ h => nomatch h) fun x b => ?_ | refine sim_op1 (must_m _ _) (fun _ h => nomatch h) fun x b => ?_
            refine sim_node [r22, r25] [nr22, nr25] rfl (by decide) (by decide) (by kernel_rfl) (fun F hF => (.cons _ _ _ _ (hF (NodeF nr22 r22) (by repeat (first | exact List.mem_cons_self .. | apply List.mem_cons_of_mem))) (.cons _ _ _ _ (hF (NodeF nr25 r25) (by repeat (first | exact List.mem_cons_self .. | apply List.mem_cons_of_mem))) .nil))) fun r28 => ?_
            (repeat (first | with_reducible refine Sim.assoc ?_ | with_reducible refine Sim.pb ?_ | with_reducible refine Sim.ct ?_ | with_reducible refine Sim.cf ?_ | with_reducible refine Sim.ctb ?_ | with_reducible refine Sim.cfb ?_))
            exact sim_ret1 (t := tP) _ rfl (fun F hF => hF _ (by repeat (first | exact List.mem_cons_self .. | apply List.mem_cons_of_mem)))
          · skip
            (repeat (first | with_reducible refine Sim.assoc ?_ | with_reducible refine Sim.pb ?_ | with_reducible refine Sim.ct ?_ | with_reducible refine Sim.cf ?_ | with_reducible refine Sim.ctb ?_ | with_reducible refine Sim.cfb ?_))
            first | refine sim_op (must_m _ _) (fun _ h => nomatch h) fun x b => ?_ | refine sim_op1 (must_m _ _) (fun _ h => nomatch h) fun x b => ?_
            refine sim_node [r22, r23] [nr22, nr23] rfl (by decide) (by decide) (by kernel_rfl) (fun F hF => (.cons _ _ _ _ (hF (NodeF nr22 r22) (by repeat (first | exact List.mem_cons_self .. | apply List.mem_cons_of_mem))) (.cons _ _ _ _ (hF (NodeF nr23 r23) (by repeat (first | exact List.mem_cons_self .. | apply List.mem_cons_of_mem))) .nil))) fun r31 => ?_
            (repeat (first | with_reducible refine Sim.assoc ?_ | with_reducible refine Sim.pb ?_ | with_reducible refine Sim.ct ?_ | with_reducible refine Sim.cf ?_ | with_reducible refine Sim.ctb ?_ | with_reducible refine Sim.cfb ?_))
            exact sim_ret1 (t := tP) _ rfl (fun F hF => hF _ (by repeat (first | exact List.mem_cons_self .. | apply List.mem_cons_of_mem)))
theorem class_m {R : PRec} (hR : PRecM R) (pb : Nat) (a1 : Int) : Meets PG (PI pb) (callS F_parser_class #[.pointer (some (pAt pb)), .int .i64 a1]) tP (classS R a1) NodeF [] := by
  refine c_parser_class (pAt pb) a1 ?_
  unfold t_parser_class classS
  (repeat (first | with_reducible refine Sim.assoc ?_ | with_reducible refine Sim.pb ?_ | with_reducible refine Sim.ct ?_ | with_reducible refine Sim.cf ?_ | with_reducible refine Sim.ctb ?_ | with_reducible refine Sim.cfb ?_))
  first | refine sim_op (name_m _) (fun _ h => nomatch h) fun r1 b => Sim.prop fun h => ?_ | refine sim_op1 (name_m _) (fun _ h => nomatch h) fun r1 b => Sim.prop fun h => ?_
  subst h
  (repeat (first | with_reducible refine Sim.assoc ?_ | with_reducible refine Sim.pb ?_ | with_reducible refine Sim.ct ?_ | with_reducible refine Sim.cf ?_ | with_reducible refine Sim.ctb ?_ | with_reducible refine Sim.cfb ?_))
  first | refine sim_op (vars_m hR _) (fun _ h => nomatch h) fun r2 nr2 => ?_ | refine sim_op1 (vars_m hR _) (fun _ h => nomatch h) fun r2 nr2 => ?_
  (repeat (first | with_reducible refine Sim.assoc ?_ | with_reducible refine Sim.pb ?_ | with_reducible refine Sim.ct ?_ | with_reducible refine Sim.cf ?_ | with_reducible refine Sim.ctb ?_ | with_reducible refine Sim.cfb ?_))
  first | refine sim_op (none_m _) (fun _ h => nomatch h) fun r3 nr3 => ?_ | refine sim_op1 (none_m _) (fun _ h => nomatch h) fun r3 nr3 => ?_
  (repeat (first | with_reducible refine Sim.assoc ?_ | with_reducible refine Sim.pb ?_ | with_reducible refine Sim.ct ?_ | with_reducible refine Sim.cf ?_ | with_reducible refine Sim.ctb ?_ | with_reducible refine Sim.cfb ?_))
  first | refine sim_op (now_m _) (fun _ h => nomatch h) fun r4 b => Sim.prop fun h => ?_ | refine sim_op1 (now_m _) (fun _ h => nomatch h) fun r4 b => Sim.prop fun h => ?_
  subst h
  (repeat (first | with_reducible refine Sim.assoc ?_ | with_reducible refine Sim.pb ?_ | with_reducible refine Sim.ct ?_ | with_reducible refine Sim.cf ?_ | with_reducible refine Sim.ctb ?_ | with_reducible refine Sim.cfb ?_))
  first | refine sim_op (take_m _ _) (fun _ h => nomatch h) fun r5 b => Sim.prop fun h => ?_ | refine sim_op1 (take_m _ _) (fun _ h => nomatch h) fun r5 b => Sim.prop fun h => ?_
  subst h
  refine sim_joinPb NodeF ?_ fun nx10 x10 => ?_
  · skip
    (repeat (first | with_reducible refine Sim.assoc ?_ | with_reducible refine Sim.pb ?_ | with_reducible refine Sim.ct ?_ | with_reducible refine Sim.cf ?_ | with_reducible refine Sim.ctb ?_ | with_reducible refine Sim.cfb ?_))
    (first | refine sim_cond (fun h => ?_) (fun h => ?_) | refine sim_condb (fun h => ?_) (fun h => ?_) | refine sim_condn (fun h => ?_) (fun h => ?_) | refine sim_condnb (fun h => ?_) (fun h => ?_) | refine sim_ite (fun h => ?_) (fun h => ?_)) -- r5
    · skip
      (repeat (first | with_reducible refine Sim.assoc ?_ | with_reducible refine Sim.pb ?_ | with_reducible refine Sim.ct ?_ | with_reducible refine Sim.cf ?_ | with_reducible refine Sim.ctb ?_ | with_reducible refine Sim.cfb ?_))
      first | refine sim_op (name_m _) (fun _ h => nomatch h) fun r6 b => Sim.prop fun h => ?_ | refine sim_op1 (name_m _) (fun _ h => nomatch h) fun r6 b => Sim.prop fun h => ?_
      subst h
      (repeat (first | with_reducible refine Sim.assoc ?_ | with_reducible refine Sim.pb ?_ | with_reducible refine Sim.ct ?_ | with_reducible refine Sim.cf ?_ | with_reducible refine Sim.ctb ?_ | with_reducible refine Sim.cfb ?_))
      first | refine sim_op (args_m hR _) (fun _ h => nomatch h) fun r7 nr7 => ?_ | refine sim_op1 (args_m hR _) (fun _ h => nomatch h) fun r7 nr7 => ?_
      refine sim_node [r7] [nr7] rfl (by decide) (by decide) (by kernel_rfl) (fun F hF => (.cons _ _ _ _ (hF (NodeF nr7 r7) (by repeat (first | exact List.mem_cons_self .. | apply List.mem_cons_of_mem))) .nil)) fun r9 => ?_
      exact sim_outP _ rfl rfl (fun F hF => hF _ (by repeat (first | exact List.mem_cons_self .. | apply List.mem_cons_of_mem)))
    · skip
      exact sim_outP _ rfl rfl (fun F hF => hF _ (by repeat (first | exact List.mem_cons_self .. | apply List.mem_cons_of_mem)))
  · skip
    (repeat (first | with_reducible refine Sim.assoc ?_ | with_reducible refine Sim.pb ?_ | with_reducible refine Sim.ct ?_ | with_reducible refine Sim.cf ?_ | with_reducible refine Sim.ctb ?_ | with_reducible refine Sim.cfb ?_))
    first | refine sim_op (refs_m hR _ _) (fun _ h => nomatch h) fun r11 nr11 => ?_ | refine sim_op1 (refs_m hR _ _) (fun _ h => nomatch h) fun r11 nr11 => ?_
    (repeat (first | with_reducible refine Sim.assoc ?_ | with_reducible refine Sim.pb ?_ | with_reducible refine Sim.ct ?_ | with_reducible refine Sim.cf ?_ | with_reducible refine Sim.ctb ?_ | with_reducible refine Sim.cfb ?_))
    first | refine sim_op (must_m _ _) (fun _ h => nomatch h) fun x b => ?_ | refine sim_op1 (must_m _ _) (fun _ h => nomatch h) fun x b => ?_
    (repeat (first | with_reducible refine Sim.assoc ?_ | with_reducible refine Sim.pb ?_ | with_reducible refine Sim.ct ?_ | with_reducible refine Sim.cf ?_ | with_reducible refine Sim.ctb ?_ | with_reducible refine Sim.cfb ?_))
    refine sim_opO (emptyO0_m _) (fun _ h => nomatch h) fun r13 nr13 Kr13 => Sim.both (Sim.prop fun hk0 => ?_)
    refine sim_join (x := { ι := Int × N, sp := fun j => cond (decide (j.1 > 1)) failS (do mustS k_rc; pure (mkN 42 r1 0 a1 [nr2, nx10, nr11, j.2])), J := fun j vs L' => Fact.ex fun K : Own => (Fact.prop (vs = [.int .i64 j.1] ∧ L' = K ++ [])).both (OwnN j.2 r13 K) }) ?_ fun i vs L' => ⟨?_, fun y => ?_⟩
    · refine sim_fuel (δ := Int × N) (fun k d => membersCS R k d.1 d.2 >>= fun cp => cond (decide (cp.1 > 1)) failS (do mustS k_rc; pure (mkN 42 r1 0 a1 [nr2, nx10, nr11, cp.2])))
        (fun k d vs L' => Fact.ex fun K : Own => (Fact.prop (vs = [.int .i64 d.1] ∧ L' = K ++ [] ∧ d.2.kids.length + 2 * k ≤ 2199023255552 ∧ 0 ≤ d.1 ∧ d.1 ≤ d.2.kids.length)).both (OwnN d.2 r13 K)) R.fuel (0, nr13) (fun _ => rfl) rfl (fun F hF => ⟨Kr13, ⟨rfl, rfl, ?_, Int.le_refl _, ?_⟩, hF _ (by repeat (first | exact List.mem_cons_self .. | apply List.mem_cons_of_mem))⟩)
        (by rintro k d vs L' F ⟨K, ⟨rfl, _⟩, _⟩; exact ⟨(d.1, ()), rfl⟩) ?_
      · have := hR.fuel; rw [hk0]; simp; omega
      · rw [hk0]; simp
      rintro k ⟨c, n⟩ L' ⟨c', ⟨⟩⟩
      refine Sim.ex fun K => Sim.both (Sim.prop fun ⟨hv, hL, hn, hc0, hc1⟩ => ?_)
      subst hL
      obtain rfl : c = c' := by
        have := (List.cons.inj hv).1
        cases this; rfl
      replace hn : n.kids.length + 2 * (k + 1) ≤ 2199023255552 := hn
      replace hc0 : 0 ≤ c := hc0
      have hc2 : (c : Int) ≤ ((N.kids n).length : Int) := hc1
      clear hc1
      have hc0' : (0 : Int) ≤ c := hc0
      dsimp only
      rw [membersCS.eq_2]
      (repeat (first | with_reducible refine Sim.assoc ?_ | with_reducible refine Sim.pb ?_ | with_reducible refine Sim.ct ?_ | with_reducible refine Sim.cf ?_ | with_reducible refine Sim.ctb ?_ | with_reducible refine Sim.cfb ?_))
      refine sim_op (is_m _ _) (fun _ h => nomatch h) fun r15 b => Sim.prop fun h => ?_
      subst h
      refine sim_condnb (fun h => ?_) (fun h => ?_)
      · (repeat (first | with_reducible refine Sim.assoc ?_ | with_reducible refine Sim.pb ?_ | with_reducible refine Sim.ct ?_ | with_reducible refine Sim.cf ?_ | with_reducible refine Sim.ctb ?_ | with_reducible refine Sim.cfb ?_))
        refine sim_op (part_m hR _) (fun _ h => nomatch h) fun r16 nr16 => ?_
        refine sim_kind (by repeat (first | exact List.mem_cons_self .. | apply List.mem_cons_of_mem)) ?_
        refine sim_joinI (fun c2 => fun st => if c2 = (if nr16.kind == 46 then c + 1 else c) then (membersCS R k c2 (n.push nr16) >>= fun cp => cond (decide (cp.1 > 1)) failS (do mustS k_rc; pure (mkN 42 r1 0 a1 [nr2, nx10, nr11, cp.2]))) st else none) ?_ fun x19 => ?_
        · refine sim_ite (fun h => ?_) (fun h => ?_)
          · have hw : IntKind.i64.wrap (c + 1) = c + 1 := wrap_id (by omega) (by omega)
            rw [hw]
            refine sim_outI _ rfl ?_
            have h' : (nr16.kind == 46) = true := h
            rw [h']; funext st; simp
          · refine sim_outI _ rfl ?_
            have h' : (nr16.kind == 46) = false := h
            rw [h']; funext st; simp
        · by_cases hx : x19 = (if nr16.kind == 46 then c + 1 else c)
          · refine Sim.spec (s' := (membersCS R k x19 (n.push nr16) >>= fun cp => cond (decide (cp.1 > 1)) failS (do mustS k_rc; pure (mkN 42 r1 0 a1 [nr2, nx10, nr11, cp.2])))) (by funext st; simp only [if_pos hx]) ?_
            refine sim_pushP (n := n) (by repeat (first | exact List.mem_cons_self .. | apply List.mem_cons_of_mem)) (by repeat (first | exact List.mem_cons_self .. | apply List.mem_cons_of_mem)) (by omega) fun K => ?_
            refine sim_outX rfl ⟨(k, (x19, n.push nr16)), Nat.lt_succ_self k⟩ rfl fun F hF => ⟨K, ⟨rfl, rfl, ?_, ?_, ?_⟩, hF _ (List.mem_cons_self ..)⟩
            · show (n.push nr16).kids.length + 2 * k ≤ 2199023255552; rw [N.push_len]; omega
            · have h9 : (0 : Int) ≤ (if nr16.kind == 46 then c + 1 else c) := by split <;> omega
              exact hx.symm ▸ h9
            · have h9 : (if nr16.kind == 46 then c + 1 else c) ≤ (((n.push nr16).kids.length : Nat) : Int) := by rw [N.push_len]; split <;> (push_cast; omega)
              exact hx.symm ▸ h9
          · intro r w F H st res S hs
            simp only [if_neg hx] at hs; cases hs
      · refine sim_outX rfl (c, n) rfl fun F hF => ⟨K, ⟨rfl, rfl⟩, hF _ (by repeat (first | exact List.mem_cons_self .. | apply List.mem_cons_of_mem))⟩
    · rintro F ⟨K, ⟨rfl, _⟩, _⟩; exact ⟨(i.1, ()), rfl⟩
    · obtain ⟨y, ⟨⟩⟩ := y
      refine Sim.ex fun K => Sim.both (Sim.prop fun ⟨hv, hL⟩ => ?_)
      subst hL
      obtain rfl : y = i.1 := by
        have := (List.cons.inj hv).1
        cases this; rfl
      refine sim_cond (fun h => ?_) (fun h => ?_)
      · exact sim_fails (β1 := Unit) (Rel1 := fun _ _ _ => Fact.prop True) (fail_m _) (fun _ h => nomatch h) (by first | exact errs_fail | exact errs_failb _)
      · refine sim_op (must_m _ _) (fun _ h => nomatch h) fun x b => ?_
        refine sim_doneM (n := i.2) (x := r13) (by repeat (first | exact List.mem_cons_self .. | apply List.mem_cons_of_mem)) ?_
        refine sim_node [r2, x10, r11, r13] [nr2, nx10, nr11, i.2] rfl (by decide) (by decide) (by kernel_rfl) (fun F hF => (.cons _ _ _ _ (hF (NodeF nr2 r2) (by repeat (first | exact List.mem_cons_self .. | apply List.mem_cons_of_mem))) (.cons _ _ _ _ (hF (NodeF nx10 x10) (by repeat (first | exact List.mem_cons_self .. | apply List.mem_cons_of_mem))) (.cons _ _ _ _ (hF (NodeF nr11 r11) (by repeat (first | exact List.mem_cons_self .. | apply List.mem_cons_of_mem))) (.cons _ _ _ _ (hF (NodeF i.2 r13) (by repeat (first | exact List.mem_cons_self .. | apply List.mem_cons_of_mem))) .nil))))) fun r33 => ?_
        exact sim_ret1 (t := tP) _ rfl (fun F hF => hF _ (by repeat (first | exact List.mem_cons_self .. | apply List.mem_cons_of_mem)))
theorem enum_m {R : PRec} (hR : PRecM R) (pb : Nat) (n : Int) (pos : Int) : Meets PG (PI pb) (callS F_parser_enum #[.pointer (some (pAt pb)), .int .i64 n, .int .i64 pos]) tP (enumS R n pos) NodeF [] := by
  refine c_parser_enum (pAt pb) n pos ?_
  unfold t_parser_enum enumS
  (repeat (first | with_reducible refine Sim.assoc ?_ | with_reducible refine Sim.pb ?_ | with_reducible refine Sim.ct ?_ | with_reducible refine Sim.cf ?_ | with_reducible refine Sim.ctb ?_ | with_reducible refine Sim.cfb ?_))
  first | refine sim_op (must_m _ _) (fun _ h => nomatch h) fun x b => ?_ | refine sim_op1 (must_m _ _) (fun _ h => nomatch h) fun x b => ?_
  (repeat (first | with_reducible refine Sim.assoc ?_ | with_reducible refine Sim.pb ?_ | with_reducible refine Sim.ct ?_ | with_reducible refine Sim.cf ?_ | with_reducible refine Sim.ctb ?_ | with_reducible refine Sim.cfb ?_))
  first | refine sim_op (name_m _) (fun _ h => nomatch h) fun r2 b => Sim.prop fun h => ?_ | refine sim_op1 (name_m _) (fun _ h => nomatch h) fun r2 b => Sim.prop fun h => ?_
  subst h
  refine sim_own0 fun r3 Kr3 => ?_
  (repeat (first | with_reducible refine Sim.assoc ?_ | with_reducible refine Sim.pb ?_ | with_reducible refine Sim.ct ?_ | with_reducible refine Sim.cf ?_ | with_reducible refine Sim.ctb ?_ | with_reducible refine Sim.cfb ?_))
  first | refine sim_op (must_m _ _) (fun _ h => nomatch h) fun x b => ?_ | refine sim_op1 (must_m _ _) (fun _ h => nomatch h) fun x b => ?_
  refine sim_joinO (fun n => do mustS k_rc; pure n) r3 [] ?_ fun n K => ?_
  · skip
    refine sim_fuelO (enumMS R) R.fuel _ (fun _ => rfl) rfl (by have := hR.fuel; simp [mkN, N.kids]; omega) (by repeat (first | exact List.mem_cons_self .. | apply List.mem_cons_of_mem)) fun k n K hn => ?_
    (repeat (first | with_reducible refine Sim.assoc ?_ | with_reducible refine Sim.pb ?_ | with_reducible refine Sim.ct ?_ | with_reducible refine Sim.cf ?_ | with_reducible refine Sim.ctb ?_ | with_reducible refine Sim.cfb ?_))
    first | refine sim_op (is_m _ _) (fun _ h => nomatch h) fun r6 b => Sim.prop fun h => ?_ | refine sim_op1 (is_m _ _) (fun _ h => nomatch h) fun r6 b => Sim.prop fun h => ?_
    subst h
    (repeat (first | with_reducible refine Sim.assoc ?_ | with_reducible refine Sim.pb ?_ | with_reducible refine Sim.ct ?_ | with_reducible refine Sim.cf ?_ | with_reducible refine Sim.ctb ?_ | with_reducible refine Sim.cfb ?_))
    (first | refine sim_cond (fun h => ?_) (fun h => ?_) | refine sim_condb (fun h => ?_) (fun h => ?_) | refine sim_condn (fun h => ?_) (fun h => ?_) | refine sim_condnb (fun h => ?_) (fun h => ?_) | refine sim_ite (fun h => ?_) (fun h => ?_)) -- (!r6)
    · skip
      (repeat (first | with_reducible refine Sim.assoc ?_ | with_reducible refine Sim.pb ?_ | with_reducible refine Sim.ct ?_ | with_reducible refine Sim.cf ?_ | with_reducible refine Sim.ctb ?_ | with_reducible refine Sim.cfb ?_))
      first | refine sim_op (now_m _) (fun _ h => nomatch h) fun r7 b => Sim.prop fun h => ?_ | refine sim_op1 (now_m _) (fun _ h => nomatch h) fun r7 b => Sim.prop fun h => ?_
      subst h
      (repeat (first | with_reducible refine Sim.assoc ?_ | with_reducible refine Sim.pb ?_ | with_reducible refine Sim.ct ?_ | with_reducible refine Sim.cf ?_ | with_reducible refine Sim.ctb ?_ | with_reducible refine Sim.cfb ?_))
      first | refine sim_op (name_m _) (fun _ h => nomatch h) fun r8 b => Sim.prop fun h => ?_ | refine sim_op1 (name_m _) (fun _ h => nomatch h) fun r8 b => Sim.prop fun h => ?_
      subst h
      (repeat (first | with_reducible refine Sim.assoc ?_ | with_reducible refine Sim.pb ?_ | with_reducible refine Sim.ct ?_ | with_reducible refine Sim.cf ?_ | with_reducible refine Sim.ctb ?_ | with_reducible refine Sim.cfb ?_))
      first | refine sim_op (none_m _) (fun _ h => nomatch h) fun r9 nr9 => ?_ | refine sim_op1 (none_m _) (fun _ h => nomatch h) fun r9 nr9 => ?_
      (repeat (first | with_reducible refine Sim.assoc ?_ | with_reducible refine Sim.pb ?_ | with_reducible refine Sim.ct ?_ | with_reducible refine Sim.cf ?_ | with_reducible refine Sim.ctb ?_ | with_reducible refine Sim.cfb ?_))
      first | refine sim_op (take_m _ _) (fun _ h => nomatch h) fun r10 b => Sim.prop fun h => ?_ | refine sim_op1 (take_m _ _) (fun _ h => nomatch h) fun r10 b => Sim.prop fun h => ?_
      subst h
      refine sim_joinPb NodeF ?_ fun nx12 x12 => ?_
      · skip
        (repeat (first | with_reducible refine Sim.assoc ?_ | with_reducible refine Sim.pb ?_ | with_reducible refine Sim.ct ?_ | with_reducible refine Sim.cf ?_ | with_reducible refine Sim.ctb ?_ | with_reducible refine Sim.cfb ?_))
        (first | refine sim_cond (fun h => ?_) (fun h => ?_) | refine sim_condb (fun h => ?_) (fun h => ?_) | refine sim_condn (fun h => ?_) (fun h => ?_) | refine sim_condnb (fun h => ?_) (fun h => ?_) | refine sim_ite (fun h => ?_) (fun h => ?_)) -- r10
        · skip
          (repeat (first | with_reducible refine Sim.assoc ?_ | with_reducible refine Sim.pb ?_ | with_reducible refine Sim.ct ?_ | with_reducible refine Sim.cf ?_ | with_reducible refine Sim.ctb ?_ | with_reducible refine Sim.cfb ?_))
          first | refine sim_op (hR.expr _) (fun _ h => nomatch h) fun r11 nr11 => ?_ | refine sim_op1 (hR.expr _) (fun _ h => nomatch h) fun r11 nr11 => ?_
          exact sim_outP _ rfl rfl (fun F hF => hF _ (by repeat (first | exact List.mem_cons_self .. | apply List.mem_cons_of_mem)))
        · skip
          exact sim_outP _ rfl rfl (fun F hF => hF _ (by repeat (first | exact List.mem_cons_self .. | apply List.mem_cons_of_mem)))
      · skip
        refine sim_growM (by repeat (first | exact List.mem_cons_self .. | apply List.mem_cons_of_mem)) fun b sl ps K2 hx hb => ?_
        refine sim_nodel [x12] [nx12] rfl (by decide) (by decide) (by kernel_rfl) (fun F hF => (.cons _ _ _ _ (hF (NodeF nx12 x12) (by repeat (first | exact List.mem_cons_self .. | apply List.mem_cons_of_mem))) .nil)) (fun p hp => by first | exact absurd hp List.not_mem_nil | (simp at hp; simp [hp])) fun r16 => ?_
        subst hx
        refine sim_push hb (by repeat (first | exact List.mem_cons_self .. | apply List.mem_cons_of_mem)) (by repeat (first | exact List.mem_cons_self .. | apply List.mem_cons_of_mem)) (by omega) fun K => ?_
        (repeat (first | with_reducible refine Sim.assoc ?_ | with_reducible refine Sim.pb ?_ | with_reducible refine Sim.ct ?_ | with_reducible refine Sim.cf ?_ | with_reducible refine Sim.ctb ?_ | with_reducible refine Sim.cfb ?_))
        first | refine sim_op (take_m _ _) (fun _ h => nomatch h) fun r21 b => Sim.prop fun h => ?_ | refine sim_op1 (take_m _ _) (fun _ h => nomatch h) fun r21 b => Sim.prop fun h => ?_
        subst h
        (repeat (first | with_reducible refine Sim.assoc ?_ | with_reducible refine Sim.pb ?_ | with_reducible refine Sim.ct ?_ | with_reducible refine Sim.cf ?_ | with_reducible refine Sim.ctb ?_ | with_reducible refine Sim.cfb ?_))
        (first | refine sim_cond (fun h => ?_) (fun h => ?_) | refine sim_condb (fun h => ?_) (fun h => ?_) | refine sim_condn (fun h => ?_) (fun h => ?_) | refine sim_condnb (fun h => ?_) (fun h => ?_) | refine sim_ite (fun h => ?_) (fun h => ?_)) -- (!r21)
        · skip
          exact sim_outJO _ rfl rfl (by repeat (first | exact List.mem_cons_self .. | apply List.mem_cons_of_mem))
        · skip
          (first | refine sim_outO0 _ rfl (by simp [N.push_len] at hn ⊢; omega) (by repeat (first | exact List.mem_cons_self .. | apply List.mem_cons_of_mem)) | refine sim_outO1 _ (by decide) rfl (by simp [N.push_len] at hn ⊢; omega) (by repeat (first | exact List.mem_cons_self .. | apply List.mem_cons_of_mem)))
    · skip
      exact sim_outJO _ rfl rfl (by repeat (first | exact List.mem_cons_self .. | apply List.mem_cons_of_mem))
  · skip
    (repeat (first | with_reducible refine Sim.assoc ?_ | with_reducible refine Sim.pb ?_ | with_reducible refine Sim.ct ?_ | with_reducible refine Sim.cf ?_ | with_reducible refine Sim.ctb ?_ | with_reducible refine Sim.cfb ?_))
    first | refine sim_op (must_m _ _) (fun _ h => nomatch h) fun x b => ?_ | refine sim_op1 (must_m _ _) (fun _ h => nomatch h) fun x b => ?_
    refine sim_doneM (n := _) (x := r3) (by repeat (first | exact List.mem_cons_self .. | apply List.mem_cons_of_mem)) ?_
    (repeat (first | with_reducible refine Sim.assoc ?_ | with_reducible refine Sim.pb ?_ | with_reducible refine Sim.ct ?_ | with_reducible refine Sim.cf ?_ | with_reducible refine Sim.ctb ?_ | with_reducible refine Sim.cfb ?_))
    exact sim_ret1 (t := tP) _ rfl (fun F hF => hF _ (by repeat (first | exact List.mem_cons_self .. | apply List.mem_cons_of_mem)))
theorem namespace_m {R : PRec} (hR : PRecM R) (pb : Nat) (a1 : Int) : Meets PG (PI pb) (callS F_parser_namespace #[.pointer (some (pAt pb)), .int .i64 a1]) tP (namespaceS R a1) NodeF [] := by
  refine c_parser_namespace (pAt pb) a1 ?_
  unfold t_parser_namespace namespaceS
  (repeat (first | with_reducible refine Sim.assoc ?_ | with_reducible refine Sim.pb ?_ | with_reducible refine Sim.ct ?_ | with_reducible refine Sim.cf ?_ | with_reducible refine Sim.ctb ?_ | with_reducible refine Sim.cfb ?_))
  first | refine sim_op (name_m _) (fun _ h => nomatch h) fun r1 b => Sim.prop fun h => ?_ | refine sim_op1 (name_m _) (fun _ h => nomatch h) fun r1 b => Sim.prop fun h => ?_
  subst h
  refine sim_own0 fun r2 Kr2 => ?_
  (repeat (first | with_reducible refine Sim.assoc ?_ | with_reducible refine Sim.pb ?_ | with_reducible refine Sim.ct ?_ | with_reducible refine Sim.cf ?_ | with_reducible refine Sim.ctb ?_ | with_reducible refine Sim.cfb ?_))
  first | refine sim_op (must_m _ _) (fun _ h => nomatch h) fun x b => ?_ | refine sim_op1 (must_m _ _) (fun _ h => nomatch h) fun x b => ?_
  refine sim_joinO (fun n => do mustS k_rc; pure n) r2 [] ?_ fun n K => ?_
  · skip
    refine sim_fuelO (spaceS R) R.fuel _ (fun _ => rfl) rfl (by have := hR.fuel; simp [mkN, N.kids]; omega) (by repeat (first | exact List.mem_cons_self .. | apply List.mem_cons_of_mem)) fun k n K hn => ?_
    (repeat (first | with_reducible refine Sim.assoc ?_ | with_reducible refine Sim.pb ?_ | with_reducible refine Sim.ct ?_ | with_reducible refine Sim.cf ?_ | with_reducible refine Sim.ctb ?_ | with_reducible refine Sim.cfb ?_))
    first | refine sim_op (is_m _ _) (fun _ h => nomatch h) fun r5 b => Sim.prop fun h => ?_ | refine sim_op1 (is_m _ _) (fun _ h => nomatch h) fun r5 b => Sim.prop fun h => ?_
    subst h
    (repeat (first | with_reducible refine Sim.assoc ?_ | with_reducible refine Sim.pb ?_ | with_reducible refine Sim.ct ?_ | with_reducible refine Sim.cf ?_ | with_reducible refine Sim.ctb ?_ | with_reducible refine Sim.cfb ?_))
    (first | refine sim_cond (fun h => ?_) (fun h => ?_) | refine sim_condb (fun h => ?_) (fun h => ?_) | refine sim_condn (fun h => ?_) (fun h => ?_) | refine sim_condnb (fun h => ?_) (fun h => ?_) | refine sim_ite (fun h => ?_) (fun h => ?_)) -- (!r5)
    · skip
      (repeat (first | with_reducible refine Sim.assoc ?_ | with_reducible refine Sim.pb ?_ | with_reducible refine Sim.ct ?_ | with_reducible refine Sim.cf ?_ | with_reducible refine Sim.ctb ?_ | with_reducible refine Sim.cfb ?_))
      first | refine sim_op (now_m _) (fun _ h => nomatch h) fun r6 b => Sim.prop fun h => ?_ | refine sim_op1 (now_m _) (fun _ h => nomatch h) fun r6 b => Sim.prop fun h => ?_
      subst h
      refine sim_varF (c := true) (z := [.int .i64 0, .string kE, .int .i64 0, .int .i64 0]) (by kernel_rfl) (by kernel_rfl) rfl (by simp [Value.cells, Value.oneCell']) fun br7 => ?_
      (repeat (first | with_reducible refine Sim.assoc ?_ | with_reducible refine Sim.pb ?_ | with_reducible refine Sim.ct ?_ | with_reducible refine Sim.cf ?_ | with_reducible refine Sim.ctb ?_ | with_reducible refine Sim.cfb ?_))
      first | refine sim_op (take_m _ _) (fun _ h => nomatch h) fun r9 b => Sim.prop fun h => ?_ | refine sim_op1 (take_m _ _) (fun _ h => nomatch h) fun r9 b => Sim.prop fun h => ?_
      subst h
      (repeat (first | with_reducible refine Sim.assoc ?_ | with_reducible refine Sim.pb ?_ | with_reducible refine Sim.ct ?_ | with_reducible refine Sim.cf ?_ | with_reducible refine Sim.ctb ?_ | with_reducible refine Sim.cfb ?_))
      (first | refine sim_cond (fun h => ?_) (fun h => ?_) | refine sim_condb (fun h => ?_) (fun h => ?_) | refine sim_condn (fun h => ?_) (fun h => ?_) | refine sim_condnb (fun h => ?_) (fun h => ?_) | refine sim_ite (fun h => ?_) (fun h => ?_)) -- (!r9)
      · skip
        refine sim_growM (by repeat (first | exact List.mem_cons_self .. | apply List.mem_cons_of_mem)) fun b sl ps K2 hx hb => ?_
        (repeat (first | with_reducible refine Sim.assoc ?_ | with_reducible refine Sim.pb ?_ | with_reducible refine Sim.ct ?_ | with_reducible refine Sim.cf ?_ | with_reducible refine Sim.ctb ?_ | with_reducible refine Sim.cfb ?_))
        first | refine sim_opl (hR.statement _) (fun _ h => nomatch h) fun r12 nr12 => ?_ | refine sim_opl1 (hR.statement _) (fun _ h => nomatch h) fun r12 nr12 => ?_
        subst hx
        refine sim_push hb (by repeat (first | exact List.mem_cons_self .. | apply List.mem_cons_of_mem)) (by repeat (first | exact List.mem_cons_self .. | apply List.mem_cons_of_mem)) (by omega) fun K => ?_
        (first | refine sim_outO0 _ rfl (by simp [N.push_len] at hn ⊢; omega) (by repeat (first | exact List.mem_cons_self .. | apply List.mem_cons_of_mem)) | refine sim_outO1 _ (by decide) rfl (by simp [N.push_len] at hn ⊢; omega) (by repeat (first | exact List.mem_cons_self .. | apply List.mem_cons_of_mem)))
      · skip
        first | refine sim_joinBb ?_ fun x19 => ?_ | refine sim_joinBc ?_ fun x19 => ?_
        · skip
          (repeat (first | with_reducible refine Sim.assoc ?_ | with_reducible refine Sim.pb ?_ | with_reducible refine Sim.ct ?_ | with_reducible refine Sim.cf ?_ | with_reducible refine Sim.ctb ?_ | with_reducible refine Sim.cfb ?_))
          first | refine sim_op (is_m _ _) (fun _ h => nomatch h) fun r17 b => Sim.prop fun h => ?_ | refine sim_op1 (is_m _ _) (fun _ h => nomatch h) fun r17 b => Sim.prop fun h => ?_
          subst h
          (repeat (first | with_reducible refine Sim.assoc ?_ | with_reducible refine Sim.pb ?_ | with_reducible refine Sim.ct ?_ | with_reducible refine Sim.cf ?_ | with_reducible refine Sim.ctb ?_ | with_reducible refine Sim.cfb ?_))
          (first | refine sim_cond (fun h => ?_) (fun h => ?_) | refine sim_condb (fun h => ?_) (fun h => ?_) | refine sim_condn (fun h => ?_) (fun h => ?_) | refine sim_condnb (fun h => ?_) (fun h => ?_) | refine sim_ite (fun h => ?_) (fun h => ?_)) -- r17
          · skip
            exact sim_outB _ rfl (by first | rfl | (simp only [Tok.kind] at *; simp_all))
          · skip
            (repeat (first | with_reducible refine Sim.assoc ?_ | with_reducible refine Sim.pb ?_ | with_reducible refine Sim.ct ?_ | with_reducible refine Sim.cf ?_ | with_reducible refine Sim.ctb ?_ | with_reducible refine Sim.cfb ?_))
            first | refine sim_op (now_m _) (fun _ h => nomatch h) fun r18 b => Sim.prop fun h => ?_ | refine sim_op1 (now_m _) (fun _ h => nomatch h) fun r18 b => Sim.prop fun h => ?_
            subst h
            exact sim_outB _ rfl (by first | rfl | (simp only [Tok.kind] at *; simp_all))
        · skip
          first | refine sim_joinFail ?_ ?_ | refine sim_joinU failS ?_ ?_
          · skip
            (repeat (first | with_reducible refine Sim.assoc ?_ | with_reducible refine Sim.pb ?_ | with_reducible refine Sim.ct ?_ | with_reducible refine Sim.cf ?_ | with_reducible refine Sim.ctb ?_ | with_reducible refine Sim.cfb ?_))
            (first | refine sim_cond (fun h => ?_) (fun h => ?_) | refine sim_condb (fun h => ?_) (fun h => ?_) | refine sim_condn (fun h => ?_) (fun h => ?_) | refine sim_condnb (fun h => ?_) (fun h => ?_) | refine sim_ite (fun h => ?_) (fun h => ?_)) -- x19.1
            · skip
              exact sim_fails (β1 := Unit) (Rel1 := fun _ _ _ => Fact.prop True) (fail_m _) (fun _ h => nomatch h) (by first | exact errs_fail | exact errs_failb _)
            · skip
              exact sim_outU rfl rfl
          · skip
            (repeat (first | with_reducible refine Sim.assoc ?_ | with_reducible refine Sim.pb ?_ | with_reducible refine Sim.ct ?_ | with_reducible refine Sim.cf ?_ | with_reducible refine Sim.ctb ?_ | with_reducible refine Sim.cfb ?_))
            first | refine sim_op (now_m _) (fun _ h => nomatch h) fun r22 b => Sim.prop fun h => ?_ | refine sim_op1 (now_m _) (fun _ h => nomatch h) fun r22 b => Sim.prop fun h => ?_
            subst h
            refine sim_op (hR.declaration _ _) (fun _ h => nomatch h) fun r23 o23 => ?_
            cases o23 with
            | none =>
              refine Sim.prop fun hp => ?_
              subst hp
              refine sim_joinB (fun c => cond c failS Sp.stop) ?_ fun x29 => ?_
              · refine sim_eqNil (by kernel_rfl) (sim_ite (fun h => ?_) (fun h => by cases h))
                exact sim_outB _ rfl rfl
              · refine sim_joinU Sp.stop ?_ sim_stop
                refine sim_cond (fun h => ?_) (fun h => ?_)
                · exact sim_fails (β1 := Unit) (Rel1 := fun _ _ _ => Fact.prop True) (fail_m _) (fun _ h => nomatch h) (by first | exact errs_fail | exact errs_failb _)
                · exact sim_outU rfl rfl
            | some n23 =>
              show Sim PG (PI pb) tP (pl NodeF) _ none _ (cond (n23.kind == 47 && n23.num == 1) failS (spaceS R k (n.push (mkN 50 kE 0 (Tok.pos r6) [n23])))) _ (NodeF n23 r23 :: _)
              refine sim_node_at (n := n23) (x := r23) (List.mem_cons_self ..) fun b23 sl23 h23 => ?_
              refine sim_joinBc ?_ fun x29 => ?_
              · refine sim_eqNil (by kernel_rfl) (sim_ite (fun h => by rw [h23] at h; cases h) (fun h => ?_))
                refine sim_kind (n := n23) (by repeat (first | exact List.mem_cons_self .. | apply List.mem_cons_of_mem)) ?_
                refine sim_ite (fun h47 => ?_) (fun h47 => ?_)
                · refine sim_num (n := n23) (by repeat (first | exact List.mem_cons_self .. | apply List.mem_cons_of_mem)) ?_
                  exact sim_outB _ rfl (by show cond (n23.kind == 47 && n23.num == 1) _ _ = _; rw [show (n23.kind == 47) = true from h47]; rfl)
                · exact sim_outB _ rfl (by show cond (n23.kind == 47 && n23.num == 1) _ _ = _; rw [show (n23.kind == 47) = false from h47]; rfl)
              · refine sim_joinFail ?_ ?_
                · refine sim_cond (fun h => ?_) (fun h => ?_)
                  · exact sim_fails (β1 := Unit) (Rel1 := fun _ _ _ => Fact.prop True) (fail_m _) (fun _ h => nomatch h) (by first | exact errs_fail | exact errs_failb _)
                  · exact sim_outU rfl rfl
                · refine sim_growM (n := n) (by repeat (first | exact List.mem_cons_self .. | apply List.mem_cons_of_mem)) fun b sl ps K2 hx hb => ?_
                  refine sim_ldFq (b1 := .int .i64) _ (by repeat (first | exact List.mem_cons_self .. | apply List.mem_cons_of_mem)) (by kernel_rfl) rfl rfl ?_
                  refine sim_nodel [r23] [n23] rfl (by decide) (by decide) (by kernel_rfl) (fun F hF => (.cons _ _ _ _ (hF (NodeF n23 r23) (by repeat (first | exact List.mem_cons_self .. | apply List.mem_cons_of_mem))) .nil)) (fun p hp => by first | exact absurd hp List.not_mem_nil | (simp at hp; simp [hp])) fun r36 => ?_
                  subst hx
                  refine sim_push (n := n) hb (by repeat (first | exact List.mem_cons_self .. | apply List.mem_cons_of_mem)) (by repeat (first | exact List.mem_cons_self .. | apply List.mem_cons_of_mem)) (by omega) fun K => ?_
                  (first | refine sim_outO0 _ rfl (by simp [N.push_len] at hn ⊢; omega) (by repeat (first | exact List.mem_cons_self .. | apply List.mem_cons_of_mem)) | refine sim_outO1 _ (by decide) rfl (by simp [N.push_len] at hn ⊢; omega) (by repeat (first | exact List.mem_cons_self .. | apply List.mem_cons_of_mem)))
    · skip
      exact sim_outJO _ rfl rfl (by repeat (first | exact List.mem_cons_self .. | apply List.mem_cons_of_mem))
  · skip
    (repeat (first | with_reducible refine Sim.assoc ?_ | with_reducible refine Sim.pb ?_ | with_reducible refine Sim.ct ?_ | with_reducible refine Sim.cf ?_ | with_reducible refine Sim.ctb ?_ | with_reducible refine Sim.cfb ?_))
    first | refine sim_op (must_m _ _) (fun _ h => nomatch h) fun x b => ?_ | refine sim_op1 (must_m _ _) (fun _ h => nomatch h) fun x b => ?_
    refine sim_doneM (n := _) (x := r2) (by repeat (first | exact List.mem_cons_self .. | apply List.mem_cons_of_mem)) ?_
    (repeat (first | with_reducible refine Sim.assoc ?_ | with_reducible refine Sim.pb ?_ | with_reducible refine Sim.ct ?_ | with_reducible refine Sim.cf ?_ | with_reducible refine Sim.ctb ?_ | with_reducible refine Sim.cfb ?_))
    exact sim_ret1 (t := tP) _ rfl (fun F hF => hF _ (by repeat (first | exact List.mem_cons_self .. | apply List.mem_cons_of_mem)))
set_option maxHeartbeats 2000000 in
theorem declaration_m {R : PRec} (hR : PRecM R) (pb : Nat) (a1 : Tok) : Meets PG (PI pb) (callS F_parser_declaration #[.pointer (some (pAt pb)), .agg #[.int .i64 a1.1, .string a1.2.1, .int .i64 a1.2.2.1, .int .i64 a1.2.2.2.1]]) tP (declarationS R a1) OptF [] := by
  refine c_parser_declaration (pAt pb) a1 ?_
  unfold t_parser_declaration declarationS
  refine sim_boxF fun br1 => ?_
  first | refine sim_joinBb ?_ fun x5 => ?_ | refine sim_joinBc ?_ fun x5 => ?_
  · skip
    (repeat (first | with_reducible refine Sim.assoc ?_ | with_reducible refine Sim.pb ?_ | with_reducible refine Sim.ct ?_ | with_reducible refine Sim.cf ?_ | with_reducible refine Sim.ctb ?_ | with_reducible refine Sim.cfb ?_))
    first | refine sim_op (is_m _ _) (fun _ h => nomatch h) fun r2 b => Sim.prop fun h => ?_ | refine sim_op1 (is_m _ _) (fun _ h => nomatch h) fun r2 b => Sim.prop fun h => ?_
    subst h
    (repeat (first | with_reducible refine Sim.assoc ?_ | with_reducible refine Sim.pb ?_ | with_reducible refine Sim.ct ?_ | with_reducible refine Sim.cf ?_ | with_reducible refine Sim.ctb ?_ | with_reducible refine Sim.cfb ?_))
    (first | refine sim_cond (fun h => ?_) (fun h => ?_) | refine sim_condb (fun h => ?_) (fun h => ?_) | refine sim_condn (fun h => ?_) (fun h => ?_) | refine sim_condnb (fun h => ?_) (fun h => ?_) | refine sim_ite (fun h => ?_) (fun h => ?_)) -- r2
    · skip
      (repeat (first | with_reducible refine Sim.assoc ?_ | with_reducible refine Sim.pb ?_ | with_reducible refine Sim.ct ?_ | with_reducible refine Sim.cf ?_ | with_reducible refine Sim.ctb ?_ | with_reducible refine Sim.cfb ?_))
      first | refine sim_op (then_m _ _ (by decide) (by decide)) (fun _ h => nomatch h) fun r3 b => Sim.prop fun h => ?_ | refine sim_op1 (then_m _ _ (by decide) (by decide)) (fun _ h => nomatch h) fun r3 b => Sim.prop fun h => ?_
      subst h
      refine sim_val (says_m _ _ _) (fun _ h => nomatch h) ?_
      exact sim_outB _ rfl (by first | rfl | (simp only [Tok.kind] at *; simp_all))
    · skip
      exact sim_outB _ rfl (by first | rfl | (simp only [Tok.kind] at *; simp_all))
  · skip
    (repeat (first | with_reducible refine Sim.assoc ?_ | with_reducible refine Sim.pb ?_ | with_reducible refine Sim.ct ?_ | with_reducible refine Sim.cf ?_ | with_reducible refine Sim.ctb ?_ | with_reducible refine Sim.cfb ?_))
    (first | refine sim_cond (fun h => ?_) (fun h => ?_) | refine sim_condb (fun h => ?_) (fun h => ?_) | refine sim_condn (fun h => ?_) (fun h => ?_) | refine sim_condnb (fun h => ?_) (fun h => ?_) | refine sim_ite (fun h => ?_) (fun h => ?_)) -- x5.1
    · skip
      (repeat (first | with_reducible refine Sim.assoc ?_ | with_reducible refine Sim.pb ?_ | with_reducible refine Sim.ct ?_ | with_reducible refine Sim.cf ?_ | with_reducible refine Sim.ctb ?_ | with_reducible refine Sim.cfb ?_))
      first | refine sim_op (next_m _) (fun _ h => nomatch h) fun r6 b => Sim.prop fun h => ?_ | refine sim_op1 (next_m _) (fun _ h => nomatch h) fun r6 b => Sim.prop fun h => ?_
      subst h
      refine sim_ldF (b1 := .int .i64) _ (by repeat (first | exact List.mem_cons_self .. | apply List.mem_cons_of_mem)) (by kernel_rfl) rfl rfl ?_
      (repeat (first | with_reducible refine Sim.assoc ?_ | with_reducible refine Sim.pb ?_ | with_reducible refine Sim.ct ?_ | with_reducible refine Sim.cf ?_ | with_reducible refine Sim.ctb ?_ | with_reducible refine Sim.cfb ?_))
      first | refine sim_op (enum_m hR _ _ _) (fun _ h => nomatch h) fun r8 nr8 => ?_ | refine sim_op1 (enum_m hR _ _ _) (fun _ h => nomatch h) fun r8 nr8 => ?_
      (repeat (first | with_reducible refine Sim.assoc ?_ | with_reducible refine Sim.pb ?_ | with_reducible refine Sim.ct ?_ | with_reducible refine Sim.cf ?_ | with_reducible refine Sim.ctb ?_ | with_reducible refine Sim.cfb ?_))
      exact sim_ret1 (t := tP) _ rfl (fun F hF => hF _ (by repeat (first | exact List.mem_cons_self .. | apply List.mem_cons_of_mem)))
    · skip
      (repeat (first | with_reducible refine Sim.assoc ?_ | with_reducible refine Sim.pb ?_ | with_reducible refine Sim.ct ?_ | with_reducible refine Sim.cf ?_ | with_reducible refine Sim.ctb ?_ | with_reducible refine Sim.cfb ?_))
      first | refine sim_op (take_m _ _) (fun _ h => nomatch h) fun r9 b => Sim.prop fun h => ?_ | refine sim_op1 (take_m _ _) (fun _ h => nomatch h) fun r9 b => Sim.prop fun h => ?_
      subst h
      (repeat (first | with_reducible refine Sim.assoc ?_ | with_reducible refine Sim.pb ?_ | with_reducible refine Sim.ct ?_ | with_reducible refine Sim.cf ?_ | with_reducible refine Sim.ctb ?_ | with_reducible refine Sim.cfb ?_))
      (first | refine sim_cond (fun h => ?_) (fun h => ?_) | refine sim_condb (fun h => ?_) (fun h => ?_) | refine sim_condn (fun h => ?_) (fun h => ?_) | refine sim_condnb (fun h => ?_) (fun h => ?_) | refine sim_ite (fun h => ?_) (fun h => ?_)) -- r9
      · skip
        refine sim_ldF (b1 := .int .i64) _ (by repeat (first | exact List.mem_cons_self .. | apply List.mem_cons_of_mem)) (by kernel_rfl) rfl rfl ?_
        (repeat (first | with_reducible refine Sim.assoc ?_ | with_reducible refine Sim.pb ?_ | with_reducible refine Sim.ct ?_ | with_reducible refine Sim.cf ?_ | with_reducible refine Sim.ctb ?_ | with_reducible refine Sim.cfb ?_))
        first | refine sim_op (variable_m hR _ _ _) (fun _ h => nomatch h) fun r11 nr11 => ?_ | refine sim_op1 (variable_m hR _ _ _) (fun _ h => nomatch h) fun r11 nr11 => ?_
        (repeat (first | with_reducible refine Sim.assoc ?_ | with_reducible refine Sim.pb ?_ | with_reducible refine Sim.ct ?_ | with_reducible refine Sim.cf ?_ | with_reducible refine Sim.ctb ?_ | with_reducible refine Sim.cfb ?_))
        first | refine sim_op (must_m _ _) (fun _ h => nomatch h) fun x b => ?_ | refine sim_op1 (must_m _ _) (fun _ h => nomatch h) fun x b => ?_
        (repeat (first | with_reducible refine Sim.assoc ?_ | with_reducible refine Sim.pb ?_ | with_reducible refine Sim.ct ?_ | with_reducible refine Sim.cf ?_ | with_reducible refine Sim.ctb ?_ | with_reducible refine Sim.cfb ?_))
        exact sim_ret1 (t := tP) _ rfl (fun F hF => hF _ (by repeat (first | exact List.mem_cons_self .. | apply List.mem_cons_of_mem)))
      · skip
        (repeat (first | with_reducible refine Sim.assoc ?_ | with_reducible refine Sim.pb ?_ | with_reducible refine Sim.ct ?_ | with_reducible refine Sim.cf ?_ | with_reducible refine Sim.ctb ?_ | with_reducible refine Sim.cfb ?_))
        first | refine sim_op (take_m _ _) (fun _ h => nomatch h) fun r13 b => Sim.prop fun h => ?_ | refine sim_op1 (take_m _ _) (fun _ h => nomatch h) fun r13 b => Sim.prop fun h => ?_
        subst h
        (repeat (first | with_reducible refine Sim.assoc ?_ | with_reducible refine Sim.pb ?_ | with_reducible refine Sim.ct ?_ | with_reducible refine Sim.cf ?_ | with_reducible refine Sim.ctb ?_ | with_reducible refine Sim.cfb ?_))
        (first | refine sim_cond (fun h => ?_) (fun h => ?_) | refine sim_condb (fun h => ?_) (fun h => ?_) | refine sim_condn (fun h => ?_) (fun h => ?_) | refine sim_condnb (fun h => ?_) (fun h => ?_) | refine sim_ite (fun h => ?_) (fun h => ?_)) -- r13
        · skip
          refine sim_ldF (b1 := .int .i64) _ (by repeat (first | exact List.mem_cons_self .. | apply List.mem_cons_of_mem)) (by kernel_rfl) rfl rfl ?_
          (repeat (first | with_reducible refine Sim.assoc ?_ | with_reducible refine Sim.pb ?_ | with_reducible refine Sim.ct ?_ | with_reducible refine Sim.cf ?_ | with_reducible refine Sim.ctb ?_ | with_reducible refine Sim.cfb ?_))
          first | refine sim_op (variable_m hR _ _ _) (fun _ h => nomatch h) fun r15 nr15 => ?_ | refine sim_op1 (variable_m hR _ _ _) (fun _ h => nomatch h) fun r15 nr15 => ?_
          (repeat (first | with_reducible refine Sim.assoc ?_ | with_reducible refine Sim.pb ?_ | with_reducible refine Sim.ct ?_ | with_reducible refine Sim.cf ?_ | with_reducible refine Sim.ctb ?_ | with_reducible refine Sim.cfb ?_))
          first | refine sim_op (must_m _ _) (fun _ h => nomatch h) fun x b => ?_ | refine sim_op1 (must_m _ _) (fun _ h => nomatch h) fun x b => ?_
          (repeat (first | with_reducible refine Sim.assoc ?_ | with_reducible refine Sim.pb ?_ | with_reducible refine Sim.ct ?_ | with_reducible refine Sim.cf ?_ | with_reducible refine Sim.ctb ?_ | with_reducible refine Sim.cfb ?_))
          exact sim_ret1 (t := tP) _ rfl (fun F hF => hF _ (by repeat (first | exact List.mem_cons_self .. | apply List.mem_cons_of_mem)))
        · skip
          (repeat (first | with_reducible refine Sim.assoc ?_ | with_reducible refine Sim.pb ?_ | with_reducible refine Sim.ct ?_ | with_reducible refine Sim.cf ?_ | with_reducible refine Sim.ctb ?_ | with_reducible refine Sim.cfb ?_))
          first | refine sim_op (take_m _ _) (fun _ h => nomatch h) fun r17 b => Sim.prop fun h => ?_ | refine sim_op1 (take_m _ _) (fun _ h => nomatch h) fun r17 b => Sim.prop fun h => ?_
          subst h
          (repeat (first | with_reducible refine Sim.assoc ?_ | with_reducible refine Sim.pb ?_ | with_reducible refine Sim.ct ?_ | with_reducible refine Sim.cf ?_ | with_reducible refine Sim.ctb ?_ | with_reducible refine Sim.cfb ?_))
          (first | refine sim_cond (fun h => ?_) (fun h => ?_) | refine sim_condb (fun h => ?_) (fun h => ?_) | refine sim_condn (fun h => ?_) (fun h => ?_) | refine sim_condnb (fun h => ?_) (fun h => ?_) | refine sim_ite (fun h => ?_) (fun h => ?_)) -- r17
          · skip
            refine sim_ldF (b1 := .int .i64) _ (by repeat (first | exact List.mem_cons_self .. | apply List.mem_cons_of_mem)) (by kernel_rfl) rfl rfl ?_
            (repeat (first | with_reducible refine Sim.assoc ?_ | with_reducible refine Sim.pb ?_ | with_reducible refine Sim.ct ?_ | with_reducible refine Sim.cf ?_ | with_reducible refine Sim.ctb ?_ | with_reducible refine Sim.cfb ?_))
            first | refine sim_op (function_m hR _ _ _) (fun _ h => nomatch h) fun r19 nr19 => ?_ | refine sim_op1 (function_m hR _ _ _) (fun _ h => nomatch h) fun r19 nr19 => ?_
            (repeat (first | with_reducible refine Sim.assoc ?_ | with_reducible refine Sim.pb ?_ | with_reducible refine Sim.ct ?_ | with_reducible refine Sim.cf ?_ | with_reducible refine Sim.ctb ?_ | with_reducible refine Sim.cfb ?_))
            exact sim_ret1 (t := tP) _ rfl (fun F hF => hF _ (by repeat (first | exact List.mem_cons_self .. | apply List.mem_cons_of_mem)))
          · skip
            (repeat (first | with_reducible refine Sim.assoc ?_ | with_reducible refine Sim.pb ?_ | with_reducible refine Sim.ct ?_ | with_reducible refine Sim.cf ?_ | with_reducible refine Sim.ctb ?_ | with_reducible refine Sim.cfb ?_))
            first | refine sim_op (take_m _ _) (fun _ h => nomatch h) fun r20 b => Sim.prop fun h => ?_ | refine sim_op1 (take_m _ _) (fun _ h => nomatch h) fun r20 b => Sim.prop fun h => ?_
            subst h
            (repeat (first | with_reducible refine Sim.assoc ?_ | with_reducible refine Sim.pb ?_ | with_reducible refine Sim.ct ?_ | with_reducible refine Sim.cf ?_ | with_reducible refine Sim.ctb ?_ | with_reducible refine Sim.cfb ?_))
            (first | refine sim_cond (fun h => ?_) (fun h => ?_) | refine sim_condb (fun h => ?_) (fun h => ?_) | refine sim_condn (fun h => ?_) (fun h => ?_) | refine sim_condnb (fun h => ?_) (fun h => ?_) | refine sim_ite (fun h => ?_) (fun h => ?_)) -- r20
            · skip
              refine sim_ldF (b1 := .int .i64) _ (by repeat (first | exact List.mem_cons_self .. | apply List.mem_cons_of_mem)) (by kernel_rfl) rfl rfl ?_
              (repeat (first | with_reducible refine Sim.assoc ?_ | with_reducible refine Sim.pb ?_ | with_reducible refine Sim.ct ?_ | with_reducible refine Sim.cf ?_ | with_reducible refine Sim.ctb ?_ | with_reducible refine Sim.cfb ?_))
              first | refine sim_op (class_m hR _ _) (fun _ h => nomatch h) fun r22 nr22 => ?_ | refine sim_op1 (class_m hR _ _) (fun _ h => nomatch h) fun r22 nr22 => ?_
              (repeat (first | with_reducible refine Sim.assoc ?_ | with_reducible refine Sim.pb ?_ | with_reducible refine Sim.ct ?_ | with_reducible refine Sim.cf ?_ | with_reducible refine Sim.ctb ?_ | with_reducible refine Sim.cfb ?_))
              exact sim_ret1 (t := tP) _ rfl (fun F hF => hF _ (by repeat (first | exact List.mem_cons_self .. | apply List.mem_cons_of_mem)))
            · skip
              (repeat (first | with_reducible refine Sim.assoc ?_ | with_reducible refine Sim.pb ?_ | with_reducible refine Sim.ct ?_ | with_reducible refine Sim.cf ?_ | with_reducible refine Sim.ctb ?_ | with_reducible refine Sim.cfb ?_))
              first | refine sim_op (is_m _ _) (fun _ h => nomatch h) fun r23 b => Sim.prop fun h => ?_ | refine sim_op1 (is_m _ _) (fun _ h => nomatch h) fun r23 b => Sim.prop fun h => ?_
              subst h
              (repeat (first | with_reducible refine Sim.assoc ?_ | with_reducible refine Sim.pb ?_ | with_reducible refine Sim.ct ?_ | with_reducible refine Sim.cf ?_ | with_reducible refine Sim.ctb ?_ | with_reducible refine Sim.cfb ?_))
              (first | refine sim_cond (fun h => ?_) (fun h => ?_) | refine sim_condb (fun h => ?_) (fun h => ?_) | refine sim_condn (fun h => ?_) (fun h => ?_) | refine sim_condnb (fun h => ?_) (fun h => ?_) | refine sim_ite (fun h => ?_) (fun h => ?_)) -- r23
              · skip
                refine sim_ldF (b1 := .int .i64) _ (by repeat (first | exact List.mem_cons_self .. | apply List.mem_cons_of_mem)) (by kernel_rfl) rfl rfl ?_
                (repeat (first | with_reducible refine Sim.assoc ?_ | with_reducible refine Sim.pb ?_ | with_reducible refine Sim.ct ?_ | with_reducible refine Sim.cf ?_ | with_reducible refine Sim.ctb ?_ | with_reducible refine Sim.cfb ?_))
                first | refine sim_op (enum_m hR _ _ _) (fun _ h => nomatch h) fun r25 nr25 => ?_ | refine sim_op1 (enum_m hR _ _ _) (fun _ h => nomatch h) fun r25 nr25 => ?_
                (repeat (first | with_reducible refine Sim.assoc ?_ | with_reducible refine Sim.pb ?_ | with_reducible refine Sim.ct ?_ | with_reducible refine Sim.cf ?_ | with_reducible refine Sim.ctb ?_ | with_reducible refine Sim.cfb ?_))
                exact sim_ret1 (t := tP) _ rfl (fun F hF => hF _ (by repeat (first | exact List.mem_cons_self .. | apply List.mem_cons_of_mem)))
              · skip
                (repeat (first | with_reducible refine Sim.assoc ?_ | with_reducible refine Sim.pb ?_ | with_reducible refine Sim.ct ?_ | with_reducible refine Sim.cf ?_ | with_reducible refine Sim.ctb ?_ | with_reducible refine Sim.cfb ?_))
                first | refine sim_op (take_m _ _) (fun _ h => nomatch h) fun r26 b => Sim.prop fun h => ?_ | refine sim_op1 (take_m _ _) (fun _ h => nomatch h) fun r26 b => Sim.prop fun h => ?_
                subst h
                (repeat (first | with_reducible refine Sim.assoc ?_ | with_reducible refine Sim.pb ?_ | with_reducible refine Sim.ct ?_ | with_reducible refine Sim.cf ?_ | with_reducible refine Sim.ctb ?_ | with_reducible refine Sim.cfb ?_))
                (first | refine sim_cond (fun h => ?_) (fun h => ?_) | refine sim_condb (fun h => ?_) (fun h => ?_) | refine sim_condn (fun h => ?_) (fun h => ?_) | refine sim_condnb (fun h => ?_) (fun h => ?_) | refine sim_ite (fun h => ?_) (fun h => ?_)) -- r26
                · skip
                  refine sim_ldF (b1 := .int .i64) _ (by repeat (first | exact List.mem_cons_self .. | apply List.mem_cons_of_mem)) (by kernel_rfl) rfl rfl ?_
                  (repeat (first | with_reducible refine Sim.assoc ?_ | with_reducible refine Sim.pb ?_ | with_reducible refine Sim.ct ?_ | with_reducible refine Sim.cf ?_ | with_reducible refine Sim.ctb ?_ | with_reducible refine Sim.cfb ?_))
                  first | refine sim_op (namespace_m hR _ _) (fun _ h => nomatch h) fun r28 nr28 => ?_ | refine sim_op1 (namespace_m hR _ _) (fun _ h => nomatch h) fun r28 nr28 => ?_
                  (repeat (first | with_reducible refine Sim.assoc ?_ | with_reducible refine Sim.pb ?_ | with_reducible refine Sim.ct ?_ | with_reducible refine Sim.cf ?_ | with_reducible refine Sim.ctb ?_ | with_reducible refine Sim.cfb ?_))
                  exact sim_ret1 (t := tP) _ rfl (fun F hF => hF _ (by repeat (first | exact List.mem_cons_self .. | apply List.mem_cons_of_mem)))
                · skip
                  (repeat (first | with_reducible refine Sim.assoc ?_ | with_reducible refine Sim.pb ?_ | with_reducible refine Sim.ct ?_ | with_reducible refine Sim.cf ?_ | with_reducible refine Sim.ctb ?_ | with_reducible refine Sim.cfb ?_))
                  first | refine sim_op (take_m _ _) (fun _ h => nomatch h) fun r29 b => Sim.prop fun h => ?_ | refine sim_op1 (take_m _ _) (fun _ h => nomatch h) fun r29 b => Sim.prop fun h => ?_
                  subst h
                  (repeat (first | with_reducible refine Sim.assoc ?_ | with_reducible refine Sim.pb ?_ | with_reducible refine Sim.ct ?_ | with_reducible refine Sim.cf ?_ | with_reducible refine Sim.ctb ?_ | with_reducible refine Sim.cfb ?_))
                  (first | refine sim_cond (fun h => ?_) (fun h => ?_) | refine sim_condb (fun h => ?_) (fun h => ?_) | refine sim_condn (fun h => ?_) (fun h => ?_) | refine sim_condnb (fun h => ?_) (fun h => ?_) | refine sim_ite (fun h => ?_) (fun h => ?_)) -- r29
                  · skip
                    (repeat (first | with_reducible refine Sim.assoc ?_ | with_reducible refine Sim.pb ?_ | with_reducible refine Sim.ct ?_ | with_reducible refine Sim.cf ?_ | with_reducible refine Sim.ctb ?_ | with_reducible refine Sim.cfb ?_))
                    first | refine sim_op (name_m _) (fun _ h => nomatch h) fun r30 b => Sim.prop fun h => ?_ | refine sim_op1 (name_m _) (fun _ h => nomatch h) fun r30 b => Sim.prop fun h => ?_
                    subst h
                    (repeat (first | with_reducible refine Sim.assoc ?_ | with_reducible refine Sim.pb ?_ | with_reducible refine Sim.ct ?_ | with_reducible refine Sim.cf ?_ | with_reducible refine Sim.ctb ?_ | with_reducible refine Sim.cfb ?_))
                    first | refine sim_op (vars_m hR _) (fun _ h => nomatch h) fun r31 nr31 => ?_ | refine sim_op1 (vars_m hR _) (fun _ h => nomatch h) fun r31 nr31 => ?_
                    (repeat (first | with_reducible refine Sim.assoc ?_ | with_reducible refine Sim.pb ?_ | with_reducible refine Sim.ct ?_ | with_reducible refine Sim.cf ?_ | with_reducible refine Sim.ctb ?_ | with_reducible refine Sim.cfb ?_))
                    first | refine sim_op (refs_m hR _ _) (fun _ h => nomatch h) fun r32 nr32 => ?_ | refine sim_op1 (refs_m hR _ _) (fun _ h => nomatch h) fun r32 nr32 => ?_
                    refine sim_draw [] (fun _ h => nomatch h) ?_
                    refine sim_ldFq (b1 := .int .i64) _ (by repeat (first | exact List.mem_cons_self .. | apply List.mem_cons_of_mem)) (by kernel_rfl) rfl rfl ?_
                    (repeat (first | with_reducible refine Sim.assoc ?_ | with_reducible refine Sim.pb ?_ | with_reducible refine Sim.ct ?_ | with_reducible refine Sim.cf ?_ | with_reducible refine Sim.ctb ?_ | with_reducible refine Sim.cfb ?_))
                    first | refine sim_opl (objectType_m hR _) (fun _ h => nomatch h) fun r34 nr34 => ?_ | refine sim_opl1 (objectType_m hR _) (fun _ h => nomatch h) fun r34 nr34 => ?_
                    refine sim_nodel [r31, r32, r34] [nr31, nr32, nr34] rfl (by decide) (by decide) (by kernel_rfl) (fun F hF => (.cons _ _ _ _ (hF (NodeF nr31 r31) (by repeat (first | exact List.mem_cons_self .. | apply List.mem_cons_of_mem))) (.cons _ _ _ _ (hF (NodeF nr32 r32) (by repeat (first | exact List.mem_cons_self .. | apply List.mem_cons_of_mem))) (.cons _ _ _ _ (hF (NodeF nr34 r34) (by repeat (first | exact List.mem_cons_self .. | apply List.mem_cons_of_mem))) .nil)))) (fun p hp => by first | exact absurd hp List.not_mem_nil | (simp at hp; simp [hp])) fun r36 => ?_
                    (repeat (first | with_reducible refine Sim.assoc ?_ | with_reducible refine Sim.pb ?_ | with_reducible refine Sim.ct ?_ | with_reducible refine Sim.cf ?_ | with_reducible refine Sim.ctb ?_ | with_reducible refine Sim.cfb ?_))
                    exact sim_ret1 (t := tP) _ rfl (fun F hF => hF _ (by repeat (first | exact List.mem_cons_self .. | apply List.mem_cons_of_mem)))
                  · skip
                    (repeat (first | with_reducible refine Sim.assoc ?_ | with_reducible refine Sim.pb ?_ | with_reducible refine Sim.ct ?_ | with_reducible refine Sim.cf ?_ | with_reducible refine Sim.ctb ?_ | with_reducible refine Sim.cfb ?_))
                    first | refine sim_op (take_m _ _) (fun _ h => nomatch h) fun r37 b => Sim.prop fun h => ?_ | refine sim_op1 (take_m _ _) (fun _ h => nomatch h) fun r37 b => Sim.prop fun h => ?_
                    subst h
                    (repeat (first | with_reducible refine Sim.assoc ?_ | with_reducible refine Sim.pb ?_ | with_reducible refine Sim.ct ?_ | with_reducible refine Sim.cf ?_ | with_reducible refine Sim.ctb ?_ | with_reducible refine Sim.cfb ?_))
                    (first | refine sim_cond (fun h => ?_) (fun h => ?_) | refine sim_condb (fun h => ?_) (fun h => ?_) | refine sim_condn (fun h => ?_) (fun h => ?_) | refine sim_condnb (fun h => ?_) (fun h => ?_) | refine sim_ite (fun h => ?_) (fun h => ?_)) -- r37
                    · skip
                      (repeat (first | with_reducible refine Sim.assoc ?_ | with_reducible refine Sim.pb ?_ | with_reducible refine Sim.ct ?_ | with_reducible refine Sim.cf ?_ | with_reducible refine Sim.ctb ?_ | with_reducible refine Sim.cfb ?_))
                      first | refine sim_op (name_m _) (fun _ h => nomatch h) fun r38 b => Sim.prop fun h => ?_ | refine sim_op1 (name_m _) (fun _ h => nomatch h) fun r38 b => Sim.prop fun h => ?_
                      subst h
                      (repeat (first | with_reducible refine Sim.assoc ?_ | with_reducible refine Sim.pb ?_ | with_reducible refine Sim.ct ?_ | with_reducible refine Sim.cf ?_ | with_reducible refine Sim.ctb ?_ | with_reducible refine Sim.cfb ?_))
                      first | refine sim_op (vars_m hR _) (fun _ h => nomatch h) fun r39 nr39 => ?_ | refine sim_op1 (vars_m hR _) (fun _ h => nomatch h) fun r39 nr39 => ?_
                      (repeat (first | with_reducible refine Sim.assoc ?_ | with_reducible refine Sim.pb ?_ | with_reducible refine Sim.ct ?_ | with_reducible refine Sim.cf ?_ | with_reducible refine Sim.ctb ?_ | with_reducible refine Sim.cfb ?_))
                      first | refine sim_op (must_m _ _) (fun _ h => nomatch h) fun x b => ?_ | refine sim_op1 (must_m _ _) (fun _ h => nomatch h) fun x b => ?_
                      (repeat (first | with_reducible refine Sim.assoc ?_ | with_reducible refine Sim.pb ?_ | with_reducible refine Sim.ct ?_ | with_reducible refine Sim.cf ?_ | with_reducible refine Sim.ctb ?_ | with_reducible refine Sim.cfb ?_))
                      first | refine sim_op (hR.typed _) (fun _ h => nomatch h) fun r41 nr41 => ?_ | refine sim_op1 (hR.typed _) (fun _ h => nomatch h) fun r41 nr41 => ?_
                      (repeat (first | with_reducible refine Sim.assoc ?_ | with_reducible refine Sim.pb ?_ | with_reducible refine Sim.ct ?_ | with_reducible refine Sim.cf ?_ | with_reducible refine Sim.ctb ?_ | with_reducible refine Sim.cfb ?_))
                      first | refine sim_op (must_m _ _) (fun _ h => nomatch h) fun x b => ?_ | refine sim_op1 (must_m _ _) (fun _ h => nomatch h) fun x b => ?_
                      refine sim_ldF (b1 := .int .i64) _ (by repeat (first | exact List.mem_cons_self .. | apply List.mem_cons_of_mem)) (by kernel_rfl) rfl rfl ?_
                      refine sim_node [r39, r41] [nr39, nr41] rfl (by decide) (by decide) (by kernel_rfl) (fun F hF => (.cons _ _ _ _ (hF (NodeF nr39 r39) (by repeat (first | exact List.mem_cons_self .. | apply List.mem_cons_of_mem))) (.cons _ _ _ _ (hF (NodeF nr41 r41) (by repeat (first | exact List.mem_cons_self .. | apply List.mem_cons_of_mem))) .nil))) fun r45 => ?_
                      (repeat (first | with_reducible refine Sim.assoc ?_ | with_reducible refine Sim.pb ?_ | with_reducible refine Sim.ct ?_ | with_reducible refine Sim.cf ?_ | with_reducible refine Sim.ctb ?_ | with_reducible refine Sim.cfb ?_))
                      exact sim_ret1 (t := tP) _ rfl (fun F hF => hF _ (by repeat (first | exact List.mem_cons_self .. | apply List.mem_cons_of_mem)))
                    · skip
                      (repeat (first | with_reducible refine Sim.assoc ?_ | with_reducible refine Sim.pb ?_ | with_reducible refine Sim.ct ?_ | with_reducible refine Sim.cf ?_ | with_reducible refine Sim.ctb ?_ | with_reducible refine Sim.cfb ?_))
                      exact sim_ret1 (t := tP) none rfl (fun F _ => rfl)
set_option maxHeartbeats 2000000 in
theorem statement_m {R : PRec} (hR : PRecM R) (pb : Nat) : Meets PG (PI pb) (callS F_parser_statement #[.pointer (some (pAt pb))]) tP (statementS R) NodeF [] := by
  refine c_parser_statement (pAt pb) ?_
  unfold t_parser_statement statementS
  (repeat (first | with_reducible refine Sim.assoc ?_ | with_reducible refine Sim.pb ?_ | with_reducible refine Sim.ct ?_ | with_reducible refine Sim.cf ?_ | with_reducible refine Sim.ctb ?_ | with_reducible refine Sim.cfb ?_))
  first | refine sim_op (now_m _) (fun _ h => nomatch h) fun r1 b => Sim.prop fun h => ?_ | refine sim_op1 (now_m _) (fun _ h => nomatch h) fun r1 b => Sim.prop fun h => ?_
  subst h
  refine sim_varF (c := true) (z := [.int .i64 0, .string kE, .int .i64 0, .int .i64 0]) (by kernel_rfl) (by kernel_rfl) rfl (by simp [Value.cells, Value.oneCell']) fun br2 => ?_
  refine sim_ldF (b1 := .int .i64) _ (by repeat (first | exact List.mem_cons_self .. | apply List.mem_cons_of_mem)) (by kernel_rfl) rfl rfl ?_
  refine sim_joinU (statement2S R r1) ?_ ?_
  · skip
    (repeat (first | with_reducible refine Sim.assoc ?_ | with_reducible refine Sim.pb ?_ | with_reducible refine Sim.ct ?_ | with_reducible refine Sim.cf ?_ | with_reducible refine Sim.ctb ?_ | with_reducible refine Sim.cfb ?_))
    (first | refine sim_cond (fun h => ?_) (fun h => ?_) | refine sim_condb (fun h => ?_) (fun h => ?_) | refine sim_condn (fun h => ?_) (fun h => ?_) | refine sim_condnb (fun h => ?_) (fun h => ?_) | refine sim_ite (fun h => ?_) (fun h => ?_)) -- ((r4 : Int) == 2)
    · skip
      refine sim_ldFA (bs := bsTok) r1 (by repeat (first | exact List.mem_cons_self .. | apply List.mem_cons_of_mem)) (by kernel_rfl) rfl rfl ?_
      refine sim_op (declaration_m hR _ _) (fun _ h => nomatch h) fun r6 o6 => ?_
      cases o6 with
      | none =>
        refine Sim.prop fun hp => ?_
        subst hp
        refine sim_neNil (by kernel_rfl) (sim_ite (fun h => by cases h) (fun h => ?_))
        exact sim_outU rfl rfl
      | some n6 =>
        refine sim_node_at (n := n6) (x := r6) (List.mem_cons_self ..) fun b6 sl6 h6 => ?_
        refine sim_neNil (by kernel_rfl) (sim_ite (fun h => ?_) (fun h => by rw [h6] at h; cases h))
        exact sim_ret1 (t := tP) _ rfl (fun F hF => hF (NodeF n6 r6) (List.mem_cons_of_mem _ (List.mem_cons_self ..)))
    · skip
      exact sim_outU rfl rfl
  · unfold statement2S
    (repeat (first | with_reducible refine Sim.assoc ?_ | with_reducible refine Sim.pb ?_ | with_reducible refine Sim.ct ?_ | with_reducible refine Sim.cf ?_ | with_reducible refine Sim.ctb ?_ | with_reducible refine Sim.cfb ?_))
    first | refine sim_op (is_m _ _) (fun _ h => nomatch h) fun r9 b => Sim.prop fun h => ?_ | refine sim_op1 (is_m _ _) (fun _ h => nomatch h) fun r9 b => Sim.prop fun h => ?_
    subst h
    (repeat (first | with_reducible refine Sim.assoc ?_ | with_reducible refine Sim.pb ?_ | with_reducible refine Sim.ct ?_ | with_reducible refine Sim.cf ?_ | with_reducible refine Sim.ctb ?_ | with_reducible refine Sim.cfb ?_))
    (first | refine sim_cond (fun h => ?_) (fun h => ?_) | refine sim_condb (fun h => ?_) (fun h => ?_) | refine sim_condn (fun h => ?_) (fun h => ?_) | refine sim_condnb (fun h => ?_) (fun h => ?_) | refine sim_ite (fun h => ?_) (fun h => ?_)) -- r9
    · skip
      (repeat (first | with_reducible refine Sim.assoc ?_ | with_reducible refine Sim.pb ?_ | with_reducible refine Sim.ct ?_ | with_reducible refine Sim.cf ?_ | with_reducible refine Sim.ctb ?_ | with_reducible refine Sim.cfb ?_))
      first | refine sim_op (hR.block _) (fun _ h => nomatch h) fun r10 nr10 => ?_ | refine sim_op1 (hR.block _) (fun _ h => nomatch h) fun r10 nr10 => ?_
      (repeat (first | with_reducible refine Sim.assoc ?_ | with_reducible refine Sim.pb ?_ | with_reducible refine Sim.ct ?_ | with_reducible refine Sim.cf ?_ | with_reducible refine Sim.ctb ?_ | with_reducible refine Sim.cfb ?_))
      exact sim_ret1 (t := tP) _ rfl (fun F hF => hF _ (by repeat (first | exact List.mem_cons_self .. | apply List.mem_cons_of_mem)))
    · skip
      (repeat (first | with_reducible refine Sim.assoc ?_ | with_reducible refine Sim.pb ?_ | with_reducible refine Sim.ct ?_ | with_reducible refine Sim.cf ?_ | with_reducible refine Sim.ctb ?_ | with_reducible refine Sim.cfb ?_))
      first | refine sim_op (take_m _ _) (fun _ h => nomatch h) fun r11 b => Sim.prop fun h => ?_ | refine sim_op1 (take_m _ _) (fun _ h => nomatch h) fun r11 b => Sim.prop fun h => ?_
      subst h
      (repeat (first | with_reducible refine Sim.assoc ?_ | with_reducible refine Sim.pb ?_ | with_reducible refine Sim.ct ?_ | with_reducible refine Sim.cf ?_ | with_reducible refine Sim.ctb ?_ | with_reducible refine Sim.cfb ?_))
      (first | refine sim_cond (fun h => ?_) (fun h => ?_) | refine sim_condb (fun h => ?_) (fun h => ?_) | refine sim_condn (fun h => ?_) (fun h => ?_) | refine sim_condnb (fun h => ?_) (fun h => ?_) | refine sim_ite (fun h => ?_) (fun h => ?_)) -- r11
      · skip
        refine sim_ldF (b1 := .int .i64) _ (by repeat (first | exact List.mem_cons_self .. | apply List.mem_cons_of_mem)) (by kernel_rfl) rfl rfl ?_
        refine sim_made0 fun r13 => ?_
        (repeat (first | with_reducible refine Sim.assoc ?_ | with_reducible refine Sim.pb ?_ | with_reducible refine Sim.ct ?_ | with_reducible refine Sim.cf ?_ | with_reducible refine Sim.ctb ?_ | with_reducible refine Sim.cfb ?_))
        exact sim_ret1 (t := tP) _ rfl (fun F hF => hF _ (by repeat (first | exact List.mem_cons_self .. | apply List.mem_cons_of_mem)))
      · skip
        (repeat (first | with_reducible refine Sim.assoc ?_ | with_reducible refine Sim.pb ?_ | with_reducible refine Sim.ct ?_ | with_reducible refine Sim.cf ?_ | with_reducible refine Sim.ctb ?_ | with_reducible refine Sim.cfb ?_))
        first | refine sim_op (is_m _ _) (fun _ h => nomatch h) fun r14 b => Sim.prop fun h => ?_ | refine sim_op1 (is_m _ _) (fun _ h => nomatch h) fun r14 b => Sim.prop fun h => ?_
        subst h
        (repeat (first | with_reducible refine Sim.assoc ?_ | with_reducible refine Sim.pb ?_ | with_reducible refine Sim.ct ?_ | with_reducible refine Sim.cf ?_ | with_reducible refine Sim.ctb ?_ | with_reducible refine Sim.cfb ?_))
        (first | refine sim_cond (fun h => ?_) (fun h => ?_) | refine sim_condb (fun h => ?_) (fun h => ?_) | refine sim_condn (fun h => ?_) (fun h => ?_) | refine sim_condnb (fun h => ?_) (fun h => ?_) | refine sim_ite (fun h => ?_) (fun h => ?_)) -- r14
        · skip
          (repeat (first | with_reducible refine Sim.assoc ?_ | with_reducible refine Sim.pb ?_ | with_reducible refine Sim.ct ?_ | with_reducible refine Sim.cf ?_ | with_reducible refine Sim.ctb ?_ | with_reducible refine Sim.cfb ?_))
          first | refine sim_op (branch_m hR _) (fun _ h => nomatch h) fun r15 nr15 => ?_ | refine sim_op1 (branch_m hR _) (fun _ h => nomatch h) fun r15 nr15 => ?_
          (repeat (first | with_reducible refine Sim.assoc ?_ | with_reducible refine Sim.pb ?_ | with_reducible refine Sim.ct ?_ | with_reducible refine Sim.cf ?_ | with_reducible refine Sim.ctb ?_ | with_reducible refine Sim.cfb ?_))
          exact sim_ret1 (t := tP) _ rfl (fun F hF => hF _ (by repeat (first | exact List.mem_cons_self .. | apply List.mem_cons_of_mem)))
        · skip
          (repeat (first | with_reducible refine Sim.assoc ?_ | with_reducible refine Sim.pb ?_ | with_reducible refine Sim.ct ?_ | with_reducible refine Sim.cf ?_ | with_reducible refine Sim.ctb ?_ | with_reducible refine Sim.cfb ?_))
          first | refine sim_op (take_m _ _) (fun _ h => nomatch h) fun r16 b => Sim.prop fun h => ?_ | refine sim_op1 (take_m _ _) (fun _ h => nomatch h) fun r16 b => Sim.prop fun h => ?_
          subst h
          (repeat (first | with_reducible refine Sim.assoc ?_ | with_reducible refine Sim.pb ?_ | with_reducible refine Sim.ct ?_ | with_reducible refine Sim.cf ?_ | with_reducible refine Sim.ctb ?_ | with_reducible refine Sim.cfb ?_))
          (first | refine sim_cond (fun h => ?_) (fun h => ?_) | refine sim_condb (fun h => ?_) (fun h => ?_) | refine sim_condn (fun h => ?_) (fun h => ?_) | refine sim_condnb (fun h => ?_) (fun h => ?_) | refine sim_ite (fun h => ?_) (fun h => ?_)) -- r16
          · skip
            (repeat (first | with_reducible refine Sim.assoc ?_ | with_reducible refine Sim.pb ?_ | with_reducible refine Sim.ct ?_ | with_reducible refine Sim.cf ?_ | with_reducible refine Sim.ctb ?_ | with_reducible refine Sim.cfb ?_))
            first | refine sim_op (round_m hR _) (fun _ h => nomatch h) fun r17 nr17 => ?_ | refine sim_op1 (round_m hR _) (fun _ h => nomatch h) fun r17 nr17 => ?_
            refine sim_draw [] (fun _ h => nomatch h) ?_
            refine sim_ldFq (b1 := .int .i64) _ (by repeat (first | exact List.mem_cons_self .. | apply List.mem_cons_of_mem)) (by kernel_rfl) rfl rfl ?_
            (repeat (first | with_reducible refine Sim.assoc ?_ | with_reducible refine Sim.pb ?_ | with_reducible refine Sim.ct ?_ | with_reducible refine Sim.cf ?_ | with_reducible refine Sim.ctb ?_ | with_reducible refine Sim.cfb ?_))
            first | refine sim_opl (hR.block _) (fun _ h => nomatch h) fun r19 nr19 => ?_ | refine sim_opl1 (hR.block _) (fun _ h => nomatch h) fun r19 nr19 => ?_
            refine sim_nodel [r17, r19] [nr17, nr19] rfl (by decide) (by decide) (by kernel_rfl) (fun F hF => (.cons _ _ _ _ (hF (NodeF nr17 r17) (by repeat (first | exact List.mem_cons_self .. | apply List.mem_cons_of_mem))) (.cons _ _ _ _ (hF (NodeF nr19 r19) (by repeat (first | exact List.mem_cons_self .. | apply List.mem_cons_of_mem))) .nil))) (fun p hp => by first | exact absurd hp List.not_mem_nil | (simp at hp; simp [hp])) fun r21 => ?_
            (repeat (first | with_reducible refine Sim.assoc ?_ | with_reducible refine Sim.pb ?_ | with_reducible refine Sim.ct ?_ | with_reducible refine Sim.cf ?_ | with_reducible refine Sim.ctb ?_ | with_reducible refine Sim.cfb ?_))
            exact sim_ret1 (t := tP) _ rfl (fun F hF => hF _ (by repeat (first | exact List.mem_cons_self .. | apply List.mem_cons_of_mem)))
          · skip
            (repeat (first | with_reducible refine Sim.assoc ?_ | with_reducible refine Sim.pb ?_ | with_reducible refine Sim.ct ?_ | with_reducible refine Sim.cf ?_ | with_reducible refine Sim.ctb ?_ | with_reducible refine Sim.cfb ?_))
            first | refine sim_op (take_m _ _) (fun _ h => nomatch h) fun r22 b => Sim.prop fun h => ?_ | refine sim_op1 (take_m _ _) (fun _ h => nomatch h) fun r22 b => Sim.prop fun h => ?_
            subst h
            (repeat (first | with_reducible refine Sim.assoc ?_ | with_reducible refine Sim.pb ?_ | with_reducible refine Sim.ct ?_ | with_reducible refine Sim.cf ?_ | with_reducible refine Sim.ctb ?_ | with_reducible refine Sim.cfb ?_))
            (first | refine sim_cond (fun h => ?_) (fun h => ?_) | refine sim_condb (fun h => ?_) (fun h => ?_) | refine sim_condn (fun h => ?_) (fun h => ?_) | refine sim_condnb (fun h => ?_) (fun h => ?_) | refine sim_ite (fun h => ?_) (fun h => ?_)) -- r22
            · skip
              refine sim_ldF (b1 := .int .i64) _ (by repeat (first | exact List.mem_cons_self .. | apply List.mem_cons_of_mem)) (by kernel_rfl) rfl rfl ?_
              (repeat (first | with_reducible refine Sim.assoc ?_ | with_reducible refine Sim.pb ?_ | with_reducible refine Sim.ct ?_ | with_reducible refine Sim.cf ?_ | with_reducible refine Sim.ctb ?_ | with_reducible refine Sim.cfb ?_))
              first | refine sim_op (loop_m hR _ _) (fun _ h => nomatch h) fun r24 nr24 => ?_ | refine sim_op1 (loop_m hR _ _) (fun _ h => nomatch h) fun r24 nr24 => ?_
              (repeat (first | with_reducible refine Sim.assoc ?_ | with_reducible refine Sim.pb ?_ | with_reducible refine Sim.ct ?_ | with_reducible refine Sim.cf ?_ | with_reducible refine Sim.ctb ?_ | with_reducible refine Sim.cfb ?_))
              exact sim_ret1 (t := tP) _ rfl (fun F hF => hF _ (by repeat (first | exact List.mem_cons_self .. | apply List.mem_cons_of_mem)))
            · skip
              (repeat (first | with_reducible refine Sim.assoc ?_ | with_reducible refine Sim.pb ?_ | with_reducible refine Sim.ct ?_ | with_reducible refine Sim.cf ?_ | with_reducible refine Sim.ctb ?_ | with_reducible refine Sim.cfb ?_))
              first | refine sim_op (take_m _ _) (fun _ h => nomatch h) fun r25 b => Sim.prop fun h => ?_ | refine sim_op1 (take_m _ _) (fun _ h => nomatch h) fun r25 b => Sim.prop fun h => ?_
              subst h
              (repeat (first | with_reducible refine Sim.assoc ?_ | with_reducible refine Sim.pb ?_ | with_reducible refine Sim.ct ?_ | with_reducible refine Sim.cf ?_ | with_reducible refine Sim.ctb ?_ | with_reducible refine Sim.cfb ?_))
              (first | refine sim_cond (fun h => ?_) (fun h => ?_) | refine sim_condb (fun h => ?_) (fun h => ?_) | refine sim_condn (fun h => ?_) (fun h => ?_) | refine sim_condnb (fun h => ?_) (fun h => ?_) | refine sim_ite (fun h => ?_) (fun h => ?_)) -- r25
              · skip
                refine sim_ldF (b1 := .int .i64) _ (by repeat (first | exact List.mem_cons_self .. | apply List.mem_cons_of_mem)) (by kernel_rfl) rfl rfl ?_
                (repeat (first | with_reducible refine Sim.assoc ?_ | with_reducible refine Sim.pb ?_ | with_reducible refine Sim.ct ?_ | with_reducible refine Sim.cf ?_ | with_reducible refine Sim.ctb ?_ | with_reducible refine Sim.cfb ?_))
                first | refine sim_op (ended_m hR _ _ _ _) (fun _ h => nomatch h) fun r27 nr27 => ?_ | refine sim_op1 (ended_m hR _ _ _ _) (fun _ h => nomatch h) fun r27 nr27 => ?_
                (repeat (first | with_reducible refine Sim.assoc ?_ | with_reducible refine Sim.pb ?_ | with_reducible refine Sim.ct ?_ | with_reducible refine Sim.cf ?_ | with_reducible refine Sim.ctb ?_ | with_reducible refine Sim.cfb ?_))
                exact sim_ret1 (t := tP) _ rfl (fun F hF => hF _ (by repeat (first | exact List.mem_cons_self .. | apply List.mem_cons_of_mem)))
              · skip
                (repeat (first | with_reducible refine Sim.assoc ?_ | with_reducible refine Sim.pb ?_ | with_reducible refine Sim.ct ?_ | with_reducible refine Sim.cf ?_ | with_reducible refine Sim.ctb ?_ | with_reducible refine Sim.cfb ?_))
                first | refine sim_op (take_m _ _) (fun _ h => nomatch h) fun r28 b => Sim.prop fun h => ?_ | refine sim_op1 (take_m _ _) (fun _ h => nomatch h) fun r28 b => Sim.prop fun h => ?_
                subst h
                (repeat (first | with_reducible refine Sim.assoc ?_ | with_reducible refine Sim.pb ?_ | with_reducible refine Sim.ct ?_ | with_reducible refine Sim.cf ?_ | with_reducible refine Sim.ctb ?_ | with_reducible refine Sim.cfb ?_))
                (first | refine sim_cond (fun h => ?_) (fun h => ?_) | refine sim_condb (fun h => ?_) (fun h => ?_) | refine sim_condn (fun h => ?_) (fun h => ?_) | refine sim_condnb (fun h => ?_) (fun h => ?_) | refine sim_ite (fun h => ?_) (fun h => ?_)) -- r28
                · skip
                  refine sim_ldF (b1 := .int .i64) _ (by repeat (first | exact List.mem_cons_self .. | apply List.mem_cons_of_mem)) (by kernel_rfl) rfl rfl ?_
                  (repeat (first | with_reducible refine Sim.assoc ?_ | with_reducible refine Sim.pb ?_ | with_reducible refine Sim.ct ?_ | with_reducible refine Sim.cf ?_ | with_reducible refine Sim.ctb ?_ | with_reducible refine Sim.cfb ?_))
                  first | refine sim_op (ended_m hR _ _ _ _) (fun _ h => nomatch h) fun r30 nr30 => ?_ | refine sim_op1 (ended_m hR _ _ _ _) (fun _ h => nomatch h) fun r30 nr30 => ?_
                  (repeat (first | with_reducible refine Sim.assoc ?_ | with_reducible refine Sim.pb ?_ | with_reducible refine Sim.ct ?_ | with_reducible refine Sim.cf ?_ | with_reducible refine Sim.ctb ?_ | with_reducible refine Sim.cfb ?_))
                  exact sim_ret1 (t := tP) _ rfl (fun F hF => hF _ (by repeat (first | exact List.mem_cons_self .. | apply List.mem_cons_of_mem)))
                · skip
                  (repeat (first | with_reducible refine Sim.assoc ?_ | with_reducible refine Sim.pb ?_ | with_reducible refine Sim.ct ?_ | with_reducible refine Sim.cf ?_ | with_reducible refine Sim.ctb ?_ | with_reducible refine Sim.cfb ?_))
                  first | refine sim_op (take_m _ _) (fun _ h => nomatch h) fun r31 b => Sim.prop fun h => ?_ | refine sim_op1 (take_m _ _) (fun _ h => nomatch h) fun r31 b => Sim.prop fun h => ?_
                  subst h
                  (repeat (first | with_reducible refine Sim.assoc ?_ | with_reducible refine Sim.pb ?_ | with_reducible refine Sim.ct ?_ | with_reducible refine Sim.cf ?_ | with_reducible refine Sim.ctb ?_ | with_reducible refine Sim.cfb ?_))
                  (first | refine sim_cond (fun h => ?_) (fun h => ?_) | refine sim_condb (fun h => ?_) (fun h => ?_) | refine sim_condn (fun h => ?_) (fun h => ?_) | refine sim_condnb (fun h => ?_) (fun h => ?_) | refine sim_ite (fun h => ?_) (fun h => ?_)) -- r31
                  · skip
                    (repeat (first | with_reducible refine Sim.assoc ?_ | with_reducible refine Sim.pb ?_ | with_reducible refine Sim.ct ?_ | with_reducible refine Sim.cf ?_ | with_reducible refine Sim.ctb ?_ | with_reducible refine Sim.cfb ?_))
                    first | refine sim_op (must_m _ _) (fun _ h => nomatch h) fun x b => ?_ | refine sim_op1 (must_m _ _) (fun _ h => nomatch h) fun x b => ?_
                    refine sim_ldF (b1 := .int .i64) _ (by repeat (first | exact List.mem_cons_self .. | apply List.mem_cons_of_mem)) (by kernel_rfl) rfl rfl ?_
                    refine sim_made0 fun r34 => ?_
                    (repeat (first | with_reducible refine Sim.assoc ?_ | with_reducible refine Sim.pb ?_ | with_reducible refine Sim.ct ?_ | with_reducible refine Sim.cf ?_ | with_reducible refine Sim.ctb ?_ | with_reducible refine Sim.cfb ?_))
                    exact sim_ret1 (t := tP) _ rfl (fun F hF => hF _ (by repeat (first | exact List.mem_cons_self .. | apply List.mem_cons_of_mem)))
                  · skip
                    (repeat (first | with_reducible refine Sim.assoc ?_ | with_reducible refine Sim.pb ?_ | with_reducible refine Sim.ct ?_ | with_reducible refine Sim.cf ?_ | with_reducible refine Sim.ctb ?_ | with_reducible refine Sim.cfb ?_))
                    first | refine sim_op (take_m _ _) (fun _ h => nomatch h) fun r35 b => Sim.prop fun h => ?_ | refine sim_op1 (take_m _ _) (fun _ h => nomatch h) fun r35 b => Sim.prop fun h => ?_
                    subst h
                    (repeat (first | with_reducible refine Sim.assoc ?_ | with_reducible refine Sim.pb ?_ | with_reducible refine Sim.ct ?_ | with_reducible refine Sim.cf ?_ | with_reducible refine Sim.ctb ?_ | with_reducible refine Sim.cfb ?_))
                    (first | refine sim_cond (fun h => ?_) (fun h => ?_) | refine sim_condb (fun h => ?_) (fun h => ?_) | refine sim_condn (fun h => ?_) (fun h => ?_) | refine sim_condnb (fun h => ?_) (fun h => ?_) | refine sim_ite (fun h => ?_) (fun h => ?_)) -- r35
                    · skip
                      (repeat (first | with_reducible refine Sim.assoc ?_ | with_reducible refine Sim.pb ?_ | with_reducible refine Sim.ct ?_ | with_reducible refine Sim.cf ?_ | with_reducible refine Sim.ctb ?_ | with_reducible refine Sim.cfb ?_))
                      first | refine sim_op (must_m _ _) (fun _ h => nomatch h) fun x b => ?_ | refine sim_op1 (must_m _ _) (fun _ h => nomatch h) fun x b => ?_
                      refine sim_ldF (b1 := .int .i64) _ (by repeat (first | exact List.mem_cons_self .. | apply List.mem_cons_of_mem)) (by kernel_rfl) rfl rfl ?_
                      refine sim_made0 fun r38 => ?_
                      (repeat (first | with_reducible refine Sim.assoc ?_ | with_reducible refine Sim.pb ?_ | with_reducible refine Sim.ct ?_ | with_reducible refine Sim.cf ?_ | with_reducible refine Sim.ctb ?_ | with_reducible refine Sim.cfb ?_))
                      exact sim_ret1 (t := tP) _ rfl (fun F hF => hF _ (by repeat (first | exact List.mem_cons_self .. | apply List.mem_cons_of_mem)))
                    · skip
                      (repeat (first | with_reducible refine Sim.assoc ?_ | with_reducible refine Sim.pb ?_ | with_reducible refine Sim.ct ?_ | with_reducible refine Sim.cf ?_ | with_reducible refine Sim.ctb ?_ | with_reducible refine Sim.cfb ?_))
                      first | refine sim_op (take_m _ _) (fun _ h => nomatch h) fun r39 b => Sim.prop fun h => ?_ | refine sim_op1 (take_m _ _) (fun _ h => nomatch h) fun r39 b => Sim.prop fun h => ?_
                      subst h
                      (repeat (first | with_reducible refine Sim.assoc ?_ | with_reducible refine Sim.pb ?_ | with_reducible refine Sim.ct ?_ | with_reducible refine Sim.cf ?_ | with_reducible refine Sim.ctb ?_ | with_reducible refine Sim.cfb ?_))
                      (first | refine sim_cond (fun h => ?_) (fun h => ?_) | refine sim_condb (fun h => ?_) (fun h => ?_) | refine sim_condn (fun h => ?_) (fun h => ?_) | refine sim_condnb (fun h => ?_) (fun h => ?_) | refine sim_ite (fun h => ?_) (fun h => ?_)) -- r39
                      · skip
                        refine sim_ldF (b1 := .int .i64) _ (by repeat (first | exact List.mem_cons_self .. | apply List.mem_cons_of_mem)) (by kernel_rfl) rfl rfl ?_
                        (repeat (first | with_reducible refine Sim.assoc ?_ | with_reducible refine Sim.pb ?_ | with_reducible refine Sim.ct ?_ | with_reducible refine Sim.cf ?_ | with_reducible refine Sim.ctb ?_ | with_reducible refine Sim.cfb ?_))
                        first | refine sim_op (try_m hR _ _) (fun _ h => nomatch h) fun r41 nr41 => ?_ | refine sim_op1 (try_m hR _ _) (fun _ h => nomatch h) fun r41 nr41 => ?_
                        (repeat (first | with_reducible refine Sim.assoc ?_ | with_reducible refine Sim.pb ?_ | with_reducible refine Sim.ct ?_ | with_reducible refine Sim.cf ?_ | with_reducible refine Sim.ctb ?_ | with_reducible refine Sim.cfb ?_))
                        exact sim_ret1 (t := tP) _ rfl (fun F hF => hF _ (by repeat (first | exact List.mem_cons_self .. | apply List.mem_cons_of_mem)))
                      · skip
                        refine sim_ldF (b1 := .int .i64) _ (by repeat (first | exact List.mem_cons_self .. | apply List.mem_cons_of_mem)) (by kernel_rfl) rfl rfl ?_
                        (repeat (first | with_reducible refine Sim.assoc ?_ | with_reducible refine Sim.pb ?_ | with_reducible refine Sim.ct ?_ | with_reducible refine Sim.cf ?_ | with_reducible refine Sim.ctb ?_ | with_reducible refine Sim.cfb ?_))
                        first | refine sim_op (ended_m hR _ _ _ _) (fun _ h => nomatch h) fun r43 nr43 => ?_ | refine sim_op1 (ended_m hR _ _ _ _) (fun _ h => nomatch h) fun r43 nr43 => ?_
                        (repeat (first | with_reducible refine Sim.assoc ?_ | with_reducible refine Sim.pb ?_ | with_reducible refine Sim.ct ?_ | with_reducible refine Sim.cf ?_ | with_reducible refine Sim.ctb ?_ | with_reducible refine Sim.cfb ?_))
                        exact sim_ret1 (t := tP) _ rfl (fun F hF => hF _ (by repeat (first | exact List.mem_cons_self .. | apply List.mem_cons_of_mem)))
end Go.Proofs.YtjlgcpgjdgeejaaGreatDoor
end

/- All of the parser's functions do what their specifications say. Conditions: the numbers' conversion. -/
section
namespace Go.Proofs.YtjlgcpgjdgeejaaGreatDoor
open Go
set_option maxRecDepth 100000
theorem stop_meets {β : Type} {t : Ty} {Rel : β → t.den → Fact} {s0 : Sem Next} {I : Ifc Int PSt} : Meets PG I s0 t (Sp.stop : PM β) Rel [] := fun r w F H st res hs => by cases hs
theorem parse_ok (hnum : NumM) : ∀ n, n ≤ 549755813888 → PRecM (parseR n) := by
  intro n
  induction n with
  | zero => exact fun _ => ⟨Nat.zero_le _, hnum, fun _ => stop_meets, fun _ => stop_meets, fun _ => stop_meets, fun _ => stop_meets, fun _ => stop_meets, fun _ => stop_meets, fun _ _ => stop_meets⟩
  | succ n ih =>
    intro h
    have hR := ih (by omega)
    have hf : (parseR (n + 1)).fuel = n + 1 := by
      have : ∀ n, (parseR n).fuel = n := fun n => by induction n with
        | zero => rfl
        | succ n ih => show (parseR n).fuel + 1 = n + 1; rw [ih]
      exact this _
    exact ⟨by rw [hf]; exact h, hnum, fun pb => expr_m hR pb, fun pb => typed_m hR pb, fun pb => block_m hR pb, fun pb => unary_m hR pb, fun pb => branch_m hR pb, fun pb => statement_m hR pb, fun pb t => declaration_m hR pb t⟩
end Go.Proofs.YtjlgcpgjdgeejaaGreatDoor
end

/- Slices that a call owns: shortened, read, one cell written. Conditions: none (general tools). -/
section
namespace Go.Proofs.YtjlgcpgjdgeejaaGreatDoor
open Go
set_option linter.unusedSimpArgs false
set_option linter.unusedVariables false
set_option linter.constructorNameAsVariable false

theorem Buf.open {e : TypeId} {size : Nat} {x : SlD} {xs : List Value} {K : Own} (h : Buf e size x xs K) (hp : 0 < x.2.1) :
    ∃ g cells, K = [(g, blk e cells)] ∧ x.1 = some ⟨g, 0, none⟩ ∧ xs.length = x.2.1 * size ∧ x.2.1 ≤ x.2.2 ∧ x.2.2 ≤ maxLen ∧ cells.length = x.2.2 * size ∧ cells.take (x.2.1 * size) = xs := by
  rcases h with ⟨_, rfl, _⟩ | h
  · simp at hp
  · exact h
theorem Buf.take {e : TypeId} {size m : Nat} {x : SlD} {xs : List Value} {K : Own} (h : Buf e size x xs K) (hm : m ≤ x.2.1) : Buf e size (x.1, m, x.2.2) (xs.take (m * size)) K := by
  rcases h with ⟨rfl, rfl, rfl⟩ | ⟨g, cells, h1, h2, h3, h4, h5, h6, h7⟩
  · have : m = 0 := by simpa using hm
    subst this
    exact .inl ⟨rfl, rfl, by simp⟩
  · refine .inr ⟨g, cells, h1, h2, ?_, Nat.le_trans hm h4, h5, h6, ?_⟩
    · have := Nat.mul_le_mul_right size hm
      simp only [List.length_take, h3]; omega
    · show cells.take (m * size) = _
      have := Nat.mul_le_mul_right size hm
      rw [← h7, List.take_take, Nat.min_eq_left this]
theorem Buf.row {e : TypeId} {size i : Nat} {x : SlD} {cells xs : List Value} (h7 : cells.take (x.2.1 * size) = xs) (hi : i < x.2.1) : (cells.drop (i * size)).take size = (xs.drop (i * size)).take size := by
  rw [← h7, List.drop_take, List.take_take]
  congr 1
  have : i * size + size ≤ x.2.1 * size := by rw [← Nat.succ_mul]; exact Nat.mul_le_mul_right _ hi
  omega
theorem splice_len (l : List Value) (o : Nat) (vs : List Value) (h : o + vs.length ≤ l.length) : (splice l o vs).length = l.length := by
  simp [splice]; omega
theorem splice_take (l : List Value) (o n : Nat) (vs : List Value) (h : o + vs.length ≤ n) (hn : n ≤ l.length) : (splice l o vs).take n = splice (l.take n) o vs := by
  unfold splice
  rw [List.take_append, List.take_append, List.take_of_length_le (l := l.take o) (by simp; omega), List.take_of_length_le (l := vs) (by simp; omega), List.take_take, Nat.min_eq_left (by omega), List.drop_take]
  congr 1
  congr 1
  simp; omega
theorem Buf.set {e : TypeId} {size o : Nat} {x : SlD} {xs vs cells : List Value} {g : Nat} (h2 : x.1 = some ⟨g, 0, none⟩) (h3 : xs.length = x.2.1 * size) (h4 : x.2.1 ≤ x.2.2) (h5 : x.2.2 ≤ maxLen) (h6 : cells.length = x.2.2 * size) (h7 : cells.take (x.2.1 * size) = xs)
    (ho : o + vs.length ≤ x.2.1 * size) : Buf e size x (splice xs o vs) [(g, blk e (splice cells o vs))] := by
  have hle : x.2.1 * size ≤ cells.length := by rw [h6]; exact Nat.mul_le_mul_right _ h4
  refine .inr ⟨g, _, rfl, h2, ?_, h4, h5, ?_, ?_⟩
  · rw [splice_len _ _ _ (by omega), h3]
  · rw [splice_len _ _ _ (by omega), h6]
  · rw [splice_take _ _ _ _ ho hle, h7]
theorem run_subH {P : Program} {t : TypeId} {a : Option Addr} {len cap : Nat} {k : IntKind} {h : Int} {w : World} (hu : P.underlying t = some (.slice (P.elem t))) (hs : ∃ i, P.info? (P.elem t) = some i) (ha : ∀ b, a = some b → b.spot = none) (h0 : 0 ≤ h) (h2 : h ≤ cap) :
    (subS t (.slice a len cap) none (some (.int k h)) none).run P w = .ok (.value (.slice a h.toNat cap)) w := by
  obtain ⟨i, hi⟩ := hs
  have : (Instr.sliceAt t (.slice a len cap) none (some (.int k h)) none).run P w = .ok (.slice a h.toNat cap) w := by
    rw [run_sliceAt_slice w t _ _ _ _ hu, run_slice_h w t a len cap hu k h h0 h2]
    simp only [sizeOf, typeInfo, Sem.run_bind, run_program, Result.andThen_ok, hi, Sem.run_pure, sliced, Nat.sub_zero]
    congr 2
    split
    · rfl
    · cases a with
      | none => rfl
      | some b =>
        obtain ⟨bb, bo, bs⟩ := b
        have : bs = none := ha _ rfl
        subst this
        simp [Addr.add]
  simp [subS, valS, this]
end Go.Proofs.YtjlgcpgjdgeejaaGreatDoor
end

/- A tree laid out in a row. Conditions: none. -/
section
namespace Go.Proofs.YtjlgcpgjdgeejaaGreatDoor
open Go
set_option linter.unusedSimpArgs false
set_option linter.unusedVariables false
set_option linter.constructorNameAsVariable false
set_option maxRecDepth 100000

structure FN where
  kind : Int
  text : ByteArray
  num : Int
  pos : Int
  kids : List Int
structure E where
  f : FN
  ks : SlD
  K : Own
def encE (e : E) : List Value := [.int .i64 e.f.kind, .string e.f.text, .int .i64 e.f.num, .slice e.ks.1 e.ks.2.1 e.ks.2.2, .int .i64 e.f.pos]
theorem encE_len (e : E) : (encE e).length = 5 := rfl
def EOk (e : E) : Prop := Buf T_int 1 e.ks (e.f.kids.map (Value.int .i64)) e.K
def esK (es : List E) : Own := es.flatMap (·.K)
def TreeP (es : List E) (x : SlD) (K : Own) : Prop := ∃ K0, K = K0 ++ esK es ∧ Buf T_api_Node 5 x (rows encE es) K0 ∧ ∀ e ∈ es, EOk e
mutual
def N.size : N → Nat
  | .mk _ _ _ _ l => 1 + N.sizes l
def N.sizes : List N → Nat
  | [] => 0
  | n :: l => n.size + N.sizes l
end
theorem sizes_append : ∀ (a b : List N), N.sizes (a ++ b) = N.sizes a + N.sizes b
  | [], b => by simp [N.sizes]
  | n :: a, b => by simp only [List.cons_append, N.sizes, sizes_append a b]; omega
theorem N.size_eq (n : N) : n.size = 1 + N.sizes n.kids := by cases n; simp [N.size, N.kids]
theorem sizes_reverse : ∀ (a : List N), N.sizes a.reverse = N.sizes a
  | [] => rfl
  | n :: a => by simp only [List.reverse_cons, sizes_append, sizes_reverse a, N.sizes]; omega
theorem sizes_le : ∀ (l : List N), l.length ≤ N.sizes l
  | [] => by simp [N.sizes]
  | n :: l => by have := sizes_le l; have := N.size_eq n; simp only [List.length_cons, N.sizes]; omega
def addKid (ns : List FN) (p : Int) (i : Nat) : List FN := if 0 ≤ p then ns.modify p.toNat (fun f => { f with kids := f.kids ++ [(i : Int)] }) else ns
def laidGo : Nat → List (N × Int) → List FN → List FN
  | 0, _, ns => ns
  | _ + 1, [], ns => ns
  | k + 1, (n, p) :: rest, ns => laidGo k (n.kids.map (fun c => (c, (ns.length : Int))) ++ rest) (addKid (ns ++ [⟨n.kind, n.text, n.num, n.pos, []⟩]) p ns.length)
theorem laidGo_nil (k : Nat) (ns : List FN) : laidGo k [] ns = ns := by cases k <;> rfl
theorem addKid_len (ns : List FN) (p : Int) (i : Nat) : (addKid ns p i).length = ns.length := by unfold addKid; split <;> simp
def encPl (p : Option Addr × Int) : List Value := [.pointer p.1, .int .i64 p.2]
theorem encPl_len (p : Option Addr × Int) : (encPl p).length = 2 := rfl
theorem loc_oneV {L : Own} {Γ : List Fact} {t e : TypeId} {size : Nat} {v z : Value} (row : List Value) (ht : slOf PG t = some (e, size)) (hz : (PG.info? e).bind (·.zero) = some z) (h0 : 0 < size) (h1 : size ≤ 1000)
    (hf : Instr.fill (fun i => some (i * size, size)) ((Array.range (1 * size)).map (z.cells[· % z.cells.size]!)) [(0, v)] = some row.toArray) :
    Loc PG (sliceS t 1 #[(0, v)]) tSl L Γ fun y L' Γ' => ∃ b, y = (some ⟨b, 0, none⟩, 1, 1) ∧ L' = L ∧ Γ' = Fact.at b (blk e row) :: Γ :=
  Loc.val fun r w F H hF hsp => ⟨(some ⟨w.heap.size, 0, none⟩, 1, 1), w.alloc (blk e row), L, _, F.ins w.heap.size (blk e row), .inl (by
      have := run_sliceS (P := PG) (w := w) (t := t) (e := e) (n := 1) (size := size) (ps := #[(0, v)]) (cells := row.toArray) (zero := z) ht (by omega) hz hf (by omega)
      have h2 : (sliceS t 1 #[(0, v)]).run PG w = .ok (.value (.slice (some ⟨w.heap.size, 0, none⟩) 1 1)) (w.alloc (blk e row)) := by simpa using this
      exact h2), hsp.new_le _,
    Holds.cons (by simp [Fact.at, Heap.ins]) (hF.mono (hsp.new_le _)), hsp.newF _, w.heap.size, rfl, rfl, rfl⟩
theorem rows_snoc {α : Type} (f : α → List Value) (l : List α) (x : α) : rows f (l ++ [x]) = rows f l ++ f x := by rw [rows_append]; simp [rows]
theorem esK_snoc (es : List E) (e : E) : esK (es ++ [e]) = esK es ++ e.K := by simp [esK]
theorem NodesAt.split {F : Heap} {p : Option Addr} {n : N} : ∀ {ps : List (Option Addr)} {ns : List N}, NodesAt F (ps ++ [p]) (ns ++ [n]) → NodesAt F ps ns ∧ NodeAt F p n
  | [], [], h => by cases h with | cons _ _ _ _ h1 h2 => exact ⟨.nil, h1⟩
  | [], m :: ns, h => by
    cases h with | cons _ _ _ _ h1 h2 => have := NodesAt.length h2; simp at this
  | q :: ps, [], h => by
    cases h with | cons _ _ _ _ h1 h2 => have := NodesAt.length h2; simp at this
  | q :: ps, m :: ns, h => by
    cases h with
    | cons _ _ _ _ h1 h2 =>
      obtain ⟨g1, g2⟩ := NodesAt.split h2
      exact ⟨.cons _ _ _ _ h1 g1, g2⟩
theorem NodesAt.get {F : Heap} : ∀ {ps : List (Option Addr)} {ns : List N}, NodesAt F ps ns → ∀ i (h : i < ns.length), ∃ p, ps[i]? = some p ∧ NodeAt F p ns[i]
  | _, _, .nil, i, h => by simp at h
  | _, _, .cons p n ps ns h1 h2, 0, h => ⟨p, rfl, h1⟩
  | _, _, .cons p n ps ns h1 h2, i + 1, h => by
    obtain ⟨q, g1, g2⟩ := NodesAt.get h2 i (by simpa using h)
    exact ⟨q, by simpa using g1, by simpa using g2⟩

theorem nil_or_snoc {α : Type} (l : List α) : l = [] ∨ ∃ l' b, l = l' ++ [b] := by
  rcases List.eq_nil_or_concat l with h | ⟨l', b, h⟩
  · exact .inl h
  · exact .inr ⟨l', b, by rw [h, List.concat_eq_append]⟩
section
variable {ε σ β : Type} {I : Ifc ε σ} {t : Ty} {Rel : β → t.den → Own → Fact} {Δ : Labels ε σ β} {q : Option Quiet} {L : Own} {Γ : List Fact} {s : Sp ε σ β}
theorem addr_add0 (g n : Nat) : (⟨g, 0, none⟩ : Addr).add n = ⟨g, n, none⟩ := by unfold Addr.add; simp; intro h; omega
theorem sim_idxO {T1 : TypeId} {n g : Nat} {x : SlD} {i : Int} {k : Addr → T} (j : Nat) (ha : x.1 = some ⟨g, 0, none⟩) (ht : slN PG T1 = some n) (hi : i = j) (hj : j < x.2.1) (hk : Sim PG I t Rel Δ none (k ⟨g, j * n, none⟩) s L Γ) :
    Sim PG I t Rel Δ q (.op (idxAS T1 (.slice x.1 x.2.1 x.2.2) (.int .i64 i)) tA k) s L Γ := by
  refine sim_loc (t1 := tA) (post := fun y L' Γ' => y = ⟨g, j * n, none⟩ ∧ L' = L ∧ Γ' = Γ) ?_ ?_
  · refine Loc.val fun r w F H hF hsp => ⟨_, w, _, _, F, .inl ?_, Heap.le.refl F, hF, hsp, rfl, rfl, rfl⟩
    rw [hi, ha, run_idxA ht (by omega) (by omega), addr_add0]; rfl
  · rintro _ _ _ ⟨rfl, rfl, rfl⟩; exact hk
theorem sim_ldOA {T1 T0 : TypeId} {a : Addr} {bs : List B} {l : List Value} {k : HB bs → T} (x : HB bs) (hr : (a.block, blk T0 l) ∈ L) (hs : shapeOf PG T1 = some (true, (HB.enc bs x).length)) (ha : a.spot = none) (hv : (l.drop a.off).take (HB.enc bs x).length = HB.enc bs x)
    (hk : Sim PG I t Rel Δ none (k x) s L Γ) : Sim PG I t Rel Δ q (.op (ldS T1 (.pointer (some a))) (.c (.agg bs)) k) s L Γ := by
  refine sim_loc (loc_ldA x (Rd.own hr) hs ha hv) ?_
  rintro _ _ _ ⟨rfl, rfl, rfl⟩
  exact hk
theorem sim_ldO1 {T1 T0 : TypeId} {a : Addr} {b1 : B} {l : List Value} {k : b1.den → T} (x : b1.den) (hr : (a.block, blk T0 l) ∈ L) (hs : isOne PG T1 = some true) (ha : a.spot = none) (hv : l[a.off]? = some (b1.enc x))
    (hk : Sim PG I t Rel Δ none (k x) s L Γ) : Sim PG I t Rel Δ q (.op (ldS T1 (.pointer (some a))) (.c (.b b1)) k) s L Γ := by
  refine sim_loc (loc_ld1 x (Rd.own hr) hs ha hv) ?_
  rintro _ _ _ ⟨rfl, rfl, rfl⟩
  exact hk
theorem sim_subO {T1 : TypeId} {x : SlD} {h : Int} {k : SlD → T} (m : Nat) (hu : PG.underlying T1 = some (.slice (PG.elem T1))) (hi : ((PG.info? (PG.elem T1)).isSome) = true) (ha : ∀ b, x.1 = some b → b.spot = none) (hm : h = m) (hc : m ≤ x.2.2) (hk : Sim PG I t Rel Δ none (k (x.1, m, x.2.2)) s L Γ) :
    Sim PG I t Rel Δ q (.op (subS T1 (.slice x.1 x.2.1 x.2.2) none (some (.int .i64 h)) none) tSl k) s L Γ := by
  refine sim_loc (t1 := tSl) (post := fun y L' Γ' => y = (x.1, m, x.2.2) ∧ L' = L ∧ Γ' = Γ) ?_ ?_
  · refine Loc.val fun r w F H hF hsp => ⟨_, w, _, _, F, .inl ?_, Heap.le.refl F, hF, hsp, rfl, rfl, rfl⟩
    rw [hm, run_subH hu (Option.isSome_iff_exists.1 hi) ha (by omega) (by omega)]; rfl
  · rintro _ _ _ ⟨rfl, rfl, rfl⟩; exact hk
end
theorem splice_mid (a b c vs : List Value) (o : Nat) (h : o + vs.length ≤ b.length) : splice (a ++ (b ++ c)) (a.length + o) vs = a ++ (splice b o vs ++ c) := by
  unfold splice
  have e1 : (a ++ (b ++ c)).take (a.length + o) = a ++ b.take o := by
    rw [List.take_append, List.take_of_length_le (by omega), List.take_append, Nat.add_sub_cancel_left]
    have : o - b.length = 0 := by omega
    rw [this]; simp
  have e2 : (a ++ (b ++ c)).drop (a.length + o + vs.length) = b.drop (o + vs.length) ++ c := by
    rw [List.drop_append, List.drop_eq_nil_of_le (by omega), List.nil_append, List.drop_append]
    have e3 : a.length + o + vs.length - a.length = o + vs.length := by omega
    have e4 : o + vs.length - b.length = 0 := by omega
    rw [e3, e4]; simp
  rw [e1, e2]; simp [List.append_assoc]
theorem modify_mid {α : Type} (l1 l2 : List α) (y : α) (g : α → α) : (l1 ++ y :: l2).modify l1.length g = l1 ++ g y :: l2 := by
  induction l1 with
  | nil => rfl
  | cons x l1 ih => simp only [List.cons_append, List.length_cons, List.modify_succ_cons, ih]
theorem perm_in (K S : Own) (x : Nat × Obj) (A1 A2 B : Own) : (K ++ (S ++ (x :: (A1 ++ (A2 ++ B))))).Perm (S ++ ((x :: (A1 ++ (K ++ A2))) ++ B)) := by
  have sw : ∀ (a b c : Own), (a ++ (b ++ c)).Perm (b ++ (a ++ c)) := fun a b c => by
    have h := (List.perm_append_comm (l₁ := a) (l₂ := b)).append_right c
    simpa [List.append_assoc] using h
  have h1 := sw K S (x :: (A1 ++ (A2 ++ B)))
  refine h1.trans (List.Perm.append_left S ?_)
  refine List.perm_middle.trans ?_
  rw [List.cons_append]
  refine List.Perm.cons x ?_
  have h2 := sw K A1 (A2 ++ B)
  simpa [List.append_assoc] using h2
def treeB (r1 r2 : Nat) (x : SlD) : Own := [(r2, blk T_api_Tree [.slice x.1 x.2.1 x.2.2]), (r1, blk T_api_Tree [.slice none 0 0])]
theorem sim_addKid {ε σ β : Type} {I : Ifc ε σ} {t : Ty} {Rel : β → t.den → Own → Fact} {Δ : Labels ε σ β} {q : Option Quiet} {Γ : List Fact} {s : Sp ε σ β} {Kst KT : Own} {r1 r2 b7 : Nat} {x : SlD} {es : List E} {pp : Int} {qv : Value} {k : T} (c : Nat) (hT : TreeP es x KT) (j : Nat)
    (hj : j < es.length) (hpp : pp = j) (h7 : Fact.at b7 (blk T_syntax_place [qv, .int .i64 pp]) ∈ Γ) (hb : ∀ e ∈ es, e.f.kids.length ≤ 1099511627776)
    (hk : ∀ es' KT', TreeP es' x KT' → es'.map (·.f) = addKid (es.map (·.f)) pp c → Sim PG I t Rel Δ none k s (Kst ++ (KT' ++ treeB r1 r2 x)) Γ) :
    Sim PG I t Rel Δ q (.draw <| .opq (ldS T_Sapi_Node (.pointer (some ⟨r2, 0, none⟩))) tSl fun r19 => .opq (ldS T_int (.pointer (some ⟨b7, 0 + 1, none⟩))) tI fun r20 => .opq (ldS T_Sapi_Node (.pointer (some ⟨r2, 0, none⟩))) tSl fun r21 => .opq (ldS T_int (.pointer (some ⟨b7, 0 + 1, none⟩))) tI fun r22 =>
      .opq (idxAS T_Sapi_Node (.slice r21.1 r21.2.1 r21.2.2) (.int .i64 r22)) tA fun r23 => .opq (ldS T_Sint (.pointer (some ⟨r23.block, r23.off + 3, none⟩))) tSl fun r24 => .opl (sliceS T_Sint 1 #[(0, .int .i64 (c : Int))]) tSl fun r25 =>
      .opl (appS #[T_Sint, T_Sint] T_Sint #[.slice r24.1 r24.2.1 r24.2.2, .slice r25.1 r25.2.1 r25.2.2]) tSl fun r26 => .opq (idxAS T_Sapi_Node (.slice r19.1 r19.2.1 r19.2.2) (.int .i64 r20)) tA fun r27 => .op (stS T_Sint (.pointer (some ⟨r27.block, r27.off + 3, none⟩)) (.slice r26.1 r26.2.1 r26.2.2)) tU fun _ => k) s
      (Kst ++ (KT ++ treeB r1 r2 x)) Γ := by
  obtain ⟨K0, rfl, hB, hE⟩ := hT
  have hlen : x.2.1 = es.length := by have h1 := hB.len; rw [rows_length encE_len] at h1; omega
  obtain ⟨g, cells, rfl, ha, g3, g4, g5, g6, g7⟩ := hB.open (by omega)
  obtain ⟨E1, e, E2, rfl, hE1⟩ : ∃ E1 e E2, es = E1 ++ e :: E2 ∧ E1.length = j := ⟨es.take j, es[j], es.drop (j + 1), by rw [← List.drop_eq_getElem_cons hj, List.take_append_drop], by simp; omega⟩
  have heok := hE e (by simp)
  have hrow := Buf.row (e := T_api_Node) (i := j) g7 (by omega)
  have hrow2 : ((rows encE (E1 ++ e :: E2)).drop (j * 5)).take 5 = encE e := rows_at encE_len (E1 ++ e :: E2) j e (by rw [← hE1]; simp)
  have hcell : cells[j * 5 + 3]? = some (.slice e.ks.1 e.ks.2.1 e.ks.2.2) := by
    have h1 : ((cells.drop (j * 5)).take 5)[3]? = some (.slice e.ks.1 e.ks.2.1 e.ks.2.2) := by rw [hrow, hrow2]; rfl
    rw [List.getElem?_take, if_pos (by decide), List.getElem?_drop] at h1
    exact h1
  subst hpp
  refine sim_draw [(r2, blk T_api_Tree [.slice x.1 x.2.1 x.2.2]), (g, blk T_api_Node cells)] (fun p hp => by simp [treeB] at hp ⊢; rcases hp with rfl | rfl <;> simp) ?_
  refine sim_opq (t1 := tSl) x (qval_ld1 (QRd.own (List.mem_cons_self ..)) (by kernel_rfl) rfl rfl) ?_
  refine sim_ldFq (b1 := .int .i64) (j : Int) h7 (by kernel_rfl) rfl rfl ?_
  refine sim_opq (t1 := tSl) x (qval_ld1 (QRd.own (List.mem_cons_self ..)) (by kernel_rfl) rfl rfl) ?_
  refine sim_ldFq (b1 := .int .i64) (j : Int) h7 (by kernel_rfl) rfl rfl ?_
  have hidx : ∀ q, QVal PG q (idxAS T_Sapi_Node (.slice x.1 x.2.1 x.2.2) (.int .i64 (j : Int))) (.pointer (some ⟨g, j * 5, none⟩)) := fun q => qval_pure fun w => by
    rw [ha, run_idxA (n := 5) (by kernel_rfl) (by omega) (by omega), addr_add0]; rfl
  refine sim_opq (t1 := tA) _ (hidx _) ?_
  refine sim_opq (t1 := tSl) e.ks (qval_ld1 (T0 := T_api_Node) (l := cells) (QRd.own (List.mem_cons_of_mem _ (List.mem_cons_self ..))) (by kernel_rfl) rfl hcell) ?_
  refine sim_locl (loc_oneV (e := T_int) (size := 1) (z := .int .i64 0) [.int .i64 (c : Int)] (by kernel_rfl) (by kernel_rfl) (by decide) (by decide) (by kernel_rfl)) ?_
  rintro _ _ _ ⟨bn, rfl, rfl, rfl⟩
  refine ⟨fun p hp => by simp [treeB] at hp ⊢; rcases hp with rfl | rfl <;> simp, ?_⟩
  have hek : e.ks.2.1 = e.f.kids.length := by have h1 := heok.len; simp at h1; omega
  have hkb := hb e (by simp)
  refine sim_permq (L' := e.K ++ (Kst ++ ((g, blk T_api_Node cells) :: (esK E1 ++ (esK E2 ++ treeB r1 r2 x))))) ?_ ?_
  · have h := perm_in e.K Kst (g, blk T_api_Node cells) (esK E1) (esK E2) (treeB r1 r2 x)
    simpa [esK, List.append_assoc] using h
  refine sim_locl (loc_append (L0 := Kst ++ ((g, blk T_api_Node cells) :: (esK E1 ++ (esK E2 ++ treeB r1 r2 x)))) (K := e.K) (size := 1) (bytes := 8) (e := T_int) (m := 1) (news := [.int .i64 (c : Int)]) (by kernel_rfl) rfl heok (Rd.at (List.mem_cons_self ..)) rfl rfl rfl (by decide) (by simp [Value.oneCell']) (by omega) (by omega)) ?_
  rintro y _ _ ⟨Ke, rfl, rfl, hy, hbuf⟩
  refine ⟨fun p hp => by simp [treeB] at hp ⊢; rcases hp with rfl | rfl <;> simp, ?_⟩
  refine sim_opq (t1 := tA) _ (hidx _) ?_
  have hcl : j * 5 + 3 + 1 ≤ cells.length := by
    have : x.2.1 * 5 ≤ cells.length := by rw [g6]; exact Nat.mul_le_mul_right _ g4
    omega
  refine sim_loc (loc_st (a := ⟨g, j * 5 + 3, none⟩) (L1 := Ke ++ Kst) (L2 := esK E1 ++ (esK E2 ++ treeB r1 r2 x)) (l := cells) (T := T_Sint) (T0 := T_api_Node) (c := false) (by simp) (by kernel_rfl) rfl hcl (by simp [Value.cells, Value.oneCell'])) ?_
  rintro _ _ _ ⟨rfl, rfl⟩
  let e' : E := ⟨{ e.f with kids := e.f.kids ++ [(c : Int)] }, y, Ke⟩
  have hrows : splice (rows encE (E1 ++ e :: E2)) (j * 5 + 3) [.slice y.1 y.2.1 y.2.2] = rows encE (E1 ++ e' :: E2) := by
    rw [rows_append, rows_cons, rows_append, rows_cons]
    have hl1 : (rows encE E1).length = j * 5 := by rw [rows_length encE_len, hE1]; omega
    rw [show j * 5 + 3 = (rows encE E1).length + 3 by rw [hl1], splice_mid _ _ _ _ _ (by simp [encE_len])]
    rfl
  refine sim_perm (L' := Kst ++ (((g, blk T_api_Node (splice cells (j * 5 + 3) [.slice y.1 y.2.1 y.2.2])) :: esK (E1 ++ e' :: E2)) ++ treeB r1 r2 x)) ?_ ?_
  · have h := (perm_in Ke Kst (g, blk T_api_Node (splice cells (j * 5 + 3) [.slice y.1 y.2.1 y.2.2])) (esK E1) (esK E2) (treeB r1 r2 x)).symm
    simpa [esK, e', List.append_assoc, Value.cells] using h
  refine (hk (E1 ++ e' :: E2) _ ⟨[(g, blk T_api_Node (splice cells (j * 5 + 3) [.slice y.1 y.2.1 y.2.2]))], rfl, ?_, ?_⟩ ?_).weak fun A hA => List.mem_cons_of_mem _ hA
  · rw [← hrows]
    exact Buf.set ha g3 g4 g5 g6 g7 (by simp; omega)
  · intro e2 he2
    simp only [List.mem_append, List.mem_cons] at he2
    rcases he2 with h | rfl | h
    · exact hE e2 (by simp [h])
    · show Buf T_int 1 y ((e.f.kids ++ [(c : Int)]).map (Value.int .i64)) Ke
      simpa using hbuf
    · exact hE e2 (by simp [h])
  · unfold addKid
    rw [if_pos (by omega)]
    simp only [List.map_append, List.map_cons, Int.toNat_natCast]
    rw [← hE1, show E1.length = (E1.map (·.f)).length by simp, modify_mid]
theorem sim_addNode {ε σ β : Type} {I : Ifc ε σ} {t : Ty} {Rel : β → t.den → Own → Fact} {Δ : Labels ε σ β} {q : Option Quiet} {Γ : List Fact} {s : Sp ε σ β} {Kst KT : Own} {r1 r2 b7 : Nat} {x : SlD} {es : List E} {pp : Int} {m : N} {qp : Option Addr} {k : T} (hT : TreeP es x KT)
    (h7 : Fact.at b7 (blk T_syntax_place [.pointer qp, .int .i64 pp]) ∈ Γ) (hm : NodeF m qp ∈ Γ) (hb : es.length ≤ 1099511627776)
    (hk : ∀ x' KT', TreeP (es ++ [⟨⟨m.kind, m.text, m.num, m.pos, []⟩, (none, 0, 0), []⟩]) x' KT' → Sim PG I t Rel Δ none k s (Kst ++ (KT' ++ treeB r1 r2 x')) Γ) :
    Sim PG I t Rel Δ q (.draw <| .opq (ldS T_Sapi_Node (.pointer (some ⟨r2, 0, none⟩))) tSl fun r11 => .opq (ldS T_Psyntax_node (.pointer (some ⟨b7, 0, none⟩))) tP fun r12 => .opq (nilS (.pointer r12)) tA fun r13 =>
      .opq (ldS T_api_Node (.pointer (some r13))) (.c (.agg [.int .i64, .str, .int .i64, .slice, .int .i64])) fun r14 =>
      .opl (sliceS T_Sapi_Node 1 #[(0, .agg #[.int .i64 r14.1, .string r14.2.1, .int .i64 r14.2.2.1, .slice r14.2.2.2.1.1 r14.2.2.2.1.2.1 r14.2.2.2.1.2.2, .int .i64 r14.2.2.2.2.1])]) tSl fun r15 =>
      .opl (appS #[T_Sapi_Node, T_Sapi_Node] T_Sapi_Node #[.slice r11.1 r11.2.1 r11.2.2, .slice r15.1 r15.2.1 r15.2.2]) tSl fun r16 =>
      .op (stS T_Sapi_Node (.pointer (some ⟨r2, 0, none⟩)) (.slice r16.1 r16.2.1 r16.2.2)) tU fun _ => k) s (Kst ++ (KT ++ treeB r1 r2 x)) Γ := by
  obtain ⟨K0, rfl, hB, hE⟩ := hT
  have hlen : x.2.1 = es.length := by have h1 := hB.len; rw [rows_length encE_len] at h1; omega
  refine sim_node_at hm fun bn sln hq => ?_
  subst hq
  refine sim_draw [(r2, blk T_api_Tree [.slice x.1 x.2.1 x.2.2])] (fun p hp => by simp [treeB] at hp ⊢; rcases hp with rfl | rfl <;> simp) ?_
  refine sim_opq (t1 := tSl) x (qval_ld1 (QRd.own (List.mem_cons_self ..)) (by kernel_rfl) rfl rfl) ?_
  refine sim_ldFq (b1 := .ptr) (some ⟨bn, 0, none⟩) (List.mem_cons_of_mem _ h7) (by kernel_rfl) rfl rfl ?_
  refine sim_nilq ?_
  refine sim_opq (t1 := .c (.agg [.int .i64, .str, .int .i64, .slice, .int .i64])) (m.kind, m.text, m.num, (none, 0, 0), m.pos, ()) (qval_ldA (QRd.of (fun F hF => hF (Fact.at bn _) (List.mem_cons_self ..))) (by kernel_rfl) rfl rfl) ?_
  refine sim_locl (loc_oneV (e := T_api_Node) (size := 5) (z := .agg #[.int .i64 0, .string kE, .int .i64 0, .slice none 0 0, .int .i64 0]) [.int .i64 m.kind, .string m.text, .int .i64 m.num, .slice none 0 0, .int .i64 m.pos] (by kernel_rfl) (by kernel_rfl) (by decide) (by decide) (by kernel_rfl)) ?_
  rintro _ _ _ ⟨b8, rfl, rfl, rfl⟩
  refine ⟨fun p hp => by simp [treeB] at hp ⊢; rcases hp with rfl | rfl <;> simp, ?_⟩
  refine sim_permq (L' := K0 ++ (Kst ++ (esK es ++ treeB r1 r2 x))) ?_ ?_
  · have h := (List.perm_append_comm (l₁ := K0) (l₂ := Kst)).append_right (esK es ++ treeB r1 r2 x)
    simpa [List.append_assoc] using h
  refine sim_locl (loc_append (L0 := Kst ++ (esK es ++ treeB r1 r2 x)) (K := K0) (size := 5) (bytes := 64) (e := T_api_Node) (m := 1) (news := [.int .i64 m.kind, .string m.text, .int .i64 m.num, .slice none 0 0, .int .i64 m.pos]) (by kernel_rfl) rfl hB (Rd.at (List.mem_cons_self ..)) rfl rfl rfl (by decide) (by simp [Value.oneCell']) (by omega) (by omega)) ?_
  rintro y _ _ ⟨K0', rfl, rfl, hy, hbuf⟩
  refine ⟨fun p hp => by simp [treeB] at hp ⊢; rcases hp with rfl | rfl <;> simp, ?_⟩
  refine sim_loc (loc_st (L1 := K0' ++ (Kst ++ esK es)) (L2 := [(r1, blk T_api_Tree [.slice none 0 0])]) (l := [.slice x.1 x.2.1 x.2.2]) (T := T_Sapi_Node) (T0 := T_api_Tree) (c := false) (by simp [treeB]) (by kernel_rfl) rfl (Nat.le_of_ble_eq_true rfl) (by simp [Value.cells, Value.oneCell'])) ?_
  rintro _ _ _ ⟨rfl, rfl⟩
  refine sim_perm (L' := Kst ++ ((K0' ++ esK es) ++ treeB r1 r2 y)) ?_ ?_
  · have h := (List.perm_append_comm (l₁ := Kst) (l₂ := K0')).append_right (esK es ++ treeB r1 r2 y)
    simpa [List.append_assoc, treeB, splice, Value.cells] using h
  refine (hk y _ ⟨K0', ?_, ?_, ?_⟩).weak fun A hA => List.mem_cons_of_mem _ (List.mem_cons_of_mem _ hA)
  · rw [esK_snoc]; simp
  · rw [rows_snoc]; exact hbuf
  · intro e he
    simp only [List.mem_append, List.mem_singleton] at he
    rcases he with he | rfl
    · exact hE e he
    · exact Buf.nil ..
def stk (S : List (N × Int)) (m : N) (c : Int) (i : Nat) : List (N × Int) := S ++ (m.kids.drop i).reverse.map (fun n => (n, c))
theorem stk_step {S : List (N × Int)} {m : N} {c : Int} {i : Nat} (h : i < m.kids.length) : stk S m c i = stk S m c (i + 1) ++ [(m.kids[i], c)] := by
  unfold stk
  rw [List.drop_eq_getElem_cons h, List.reverse_cons, List.map_append, List.append_assoc]; rfl
theorem sim_pushKids {ε σ β : Type} {I : Ifc ε σ} {t : Ty} {Rel : β → t.den → Own → Fact} {Δ : Labels ε σ β} {q : Option Quiet} {Γ : List Fact} {s : Sp ε σ β} {K1 Lr : Own} {b7 : Nat} {m : N} {qp : Option Addr} {pp : Int} {sl : SlD} {S : List (N × Int)} {PS : List (Option Addr × Int)} (c : Nat) {ksl : SlD}
    (h7 : Fact.at b7 (blk T_syntax_place [.pointer qp, .int .i64 pp]) ∈ Γ) (hm : NodeF m qp ∈ Γ) (hst : Buf T_syntax_place 2 sl (rows encPl PS) K1) (hPS : PS.map (·.2) = S.map (·.2)) (hN : NodesF (S.map (·.1)) (PS.map (·.1)) ∈ Γ)
    (hb : S.length + m.kids.length ≤ 1099511627776) (hkl : ksl.2.1 = m.kids.length)
    (hk : ∀ sl' K1' PS' Γ', Buf T_syntax_place 2 sl' (rows encPl PS') K1' → PS'.map (·.2) = (stk S m c 0).map (·.2) → NodesF ((stk S m c 0).map (·.1)) (PS'.map (·.1)) ∈ Γ' →
      ∀ x, Sim PG I t Rel (Δ.set 2 x) none (.out 1 [.slice sl'.1 sl'.2.1 sl'.2.2]) s (K1' ++ Lr) Γ') :
    Sim PG I t Rel Δ q (.loop 2 [.b .slice, .b (.int .i64)] [.slice sl.1 sl.2.1 sl.2.2, .int .i64 (IntKind.i64.wrap ((ksl.2.1 : Int) - 1))] fun x33 =>
          .ite (decide ((x33.2.1 : Int) ≥ 0)) (
            .op (ldS T_Psyntax_node (.pointer (some ⟨b7, 0, none⟩))) tP fun r34 => .op (nilS (.pointer r34)) tA fun r35 => .op (ldS T_SPsyntax_node (.pointer (some ⟨r35.block, r35.off + 5, none⟩))) tSl fun r36 =>
            .op (idxAS T_SPsyntax_node (.slice r36.1 r36.2.1 r36.2.2) (.int .i64 x33.2.1)) tA fun r37 => .op (ldS T_Psyntax_node (.pointer (some r37))) tP fun r38 =>
            .op (sliceS T_Ssyntax_place 1 #[(0, .agg #[.pointer r38, .int .i64 (c : Int)])]) tSl fun r39 =>
            .op (appS #[T_Ssyntax_place, T_Ssyntax_place] T_Ssyntax_place #[.slice x33.1.1 x33.1.2.1 x33.1.2.2, .slice r39.1 r39.2.1 r39.2.2]) tSl fun r40 =>
            .out 2 [.slice r40.1 r40.2.1 r40.2.2, .int .i64 (IntKind.i64.wrap (x33.2.1 - 1))]) (
            .out 1 [.slice x33.1.1 x33.1.2.1 x33.1.2.2])) s (K1 ++ Lr) Γ := by
  refine sim_loop (x := { ι := { i : Nat // i ≤ m.kids.length }, sp := fun _ => s, J := fun i vs L' => Fact.ex fun sl : SlD => Fact.ex fun K1 : Own => Fact.ex fun PS : List (Option Addr × Int) =>
      (Fact.prop (vs = [.slice sl.1 sl.2.1 sl.2.2, .int .i64 ((i.1 : Int) - 1)] ∧ L' = K1 ++ Lr ∧ Buf T_syntax_place 2 sl (rows encPl PS) K1 ∧ PS.map (·.2) = (stk S m c i.1).map (·.2))).both (NodesF ((stk S m c i.1).map (·.1)) (PS.map (·.1))) }) (fun i => i.1) ⟨m.kids.length, Nat.le_refl _⟩ rfl ?_ ?_ ?_
  · have e : stk S m c m.kids.length = S := by unfold stk; simp
    refine fun F hF => ⟨sl, K1, PS, ⟨?_, rfl, hst, by rw [e]; exact hPS⟩, by show NodesAt F _ ((stk S m c m.kids.length).map (·.1)); rw [e]; exact hF _ hN⟩
    rw [hkl, wrap_id (by omega) (by omega)]
  · rintro i vs L' F ⟨sl, K1, PS, ⟨rfl, _⟩, _⟩; exact ⟨(sl, (i.1 : Int) - 1, ()), rfl⟩
  · rintro ⟨i, hi⟩ L' ⟨sl', i', ⟨⟩⟩
    refine Sim.ex fun sl => Sim.ex fun K1 => Sim.ex fun PS => Sim.both (Sim.prop fun ⟨hv, hL, hst, hPS⟩ => ?_)
    subst hL
    obtain rfl : sl' = sl := by
      obtain ⟨a, b, c⟩ := sl'; obtain ⟨a2, b2, c2⟩ := sl
      have e1 : Value.slice a b c = Value.slice a2 b2 c2 := (List.cons.inj hv).1
      cases e1; rfl
    have hi' : i' = (i : Int) - 1 := by
      have e1 : Value.int .i64 i' = Value.int .i64 ((i : Int) - 1) := (List.cons.inj (List.cons.inj hv).2).1
      cases e1; rfl
    subst hi'
    refine sim_ite (fun h => ?_) (fun h => ?_)
    · have hpos : (0 : Int) ≤ (i : Int) - 1 := of_decide_eq_true h
      obtain ⟨j, rfl⟩ : ∃ j, i = j + 1 := ⟨i - 1, by omega⟩
      have hjlt : j < m.kids.length := hi
      refine sim_keep (A := NodesF ((stk S m c (j + 1)).map (·.1)) (PS.map (·.1))) (List.mem_cons_self ..) ?_
      refine sim_ldF (b1 := .ptr) qp (List.mem_cons_of_mem _ (List.mem_cons_of_mem _ h7)) (by kernel_rfl) rfl rfl ?_
      refine sim_node_kids (n := m) (x := qp) (List.mem_cons_of_mem _ (List.mem_cons_of_mem _ hm)) fun bn sln psn hq => ?_
      subst hq
      refine sim_nil ?_
      refine sim_ldF (b1 := .slice) sln (List.mem_cons_self ..) (by kernel_rfl) rfl rfl ?_
      refine Sim.note (φ := psn.length = m.kids.length) (fun F hF => NodesAt.length (hF (NodesF m.kids psn) (by repeat (first | exact List.mem_cons_self .. | apply List.mem_cons_of_mem)))) fun hpl => ?_
      refine Sim.note (φ := ∃ a, sln.1 = some a ∧ a.spot = none) (fun F hF => Sl.addr (hF (Sl 1 encPtr sln psn) (by repeat (first | exact List.mem_cons_self .. | apply List.mem_cons_of_mem))) (by omega)) fun ⟨a, ha, _⟩ => ?_
      refine sim_loc (loc_idx (f := encPtr) (l := psn) ha (fun F hF => hF _ (by repeat (first | exact List.mem_cons_self .. | apply List.mem_cons_of_mem))) (by kernel_rfl) j (by show ((j + 1 : Nat) : Int) - 1 = _; push_cast; omega) (by omega)) ?_
      rintro _ _ _ ⟨rfl, rfl, rfl⟩
      have hpj : psn[j]? = some psn[j] := List.getElem?_eq_getElem (by omega)
      refine sim_loc (loc_elem1 (f := encPtr) (b := .ptr) encPtr_len ha (fun F hF => hF _ (by repeat (first | exact List.mem_cons_self .. | apply List.mem_cons_of_mem))) hpj (by kernel_rfl) psn[j] rfl) ?_
      rintro _ _ _ ⟨rfl, rfl, rfl⟩
      refine sim_loc (loc_oneV (e := T_syntax_place) (size := 2) (z := .agg #[.pointer none, .int .i64 0]) [.pointer psn[j], .int .i64 (c : Int)] (by kernel_rfl) (by kernel_rfl) (by decide) (by decide) (by kernel_rfl)) ?_
      rintro _ _ _ ⟨bp, rfl, rfl, rfl⟩
      have hPl : PS.length = (stk S m c (j + 1)).length := by have := congrArg List.length hPS; simpa using this
      have hsl : sl'.2.1 = PS.length := by have h1 := hst.len; rw [rows_length encPl_len] at h1; omega
      have hstl : (stk S m c (j + 1)).length + (j + 1) ≤ 1099511627776 := by unfold stk; simp; omega
      refine sim_loc (loc_append (L0 := Lr) (K := K1) (size := 2) (bytes := 16) (e := T_syntax_place) (m := 1) (news := [.pointer psn[j], .int .i64 (c : Int)]) (by kernel_rfl) rfl hst (Rd.at (List.mem_cons_self ..)) rfl rfl rfl (by decide) (by simp [Value.oneCell']) (by show (sl'.2.1 + 1) * 16 ≤ _; omega) (by show sl'.2.1 + 1 ≤ _; omega)) ?_
      rintro y _ _ ⟨K1', rfl, rfl, hy, hbuf⟩
      refine sim_outX rfl ⟨⟨j, by omega⟩, Nat.lt_succ_self j⟩ rfl fun F hF => ⟨y, K1', PS ++ [(psn[j], (c : Int))], ⟨?_, rfl, ?_, ?_⟩, ?_⟩
      · show [Value.slice y.1 y.2.1 y.2.2, .int .i64 (IntKind.i64.wrap ((((j + 1 : Nat) : Int) - 1) - 1))] = _
        rw [wrap_id (by omega) (by omega)]
        congr 3; push_cast; omega
      · rw [rows_snoc]; exact hbuf
      · rw [stk_step hjlt, List.map_append, List.map_append, hPS]; rfl
      · show NodesAt F _ _
        rw [stk_step hjlt, List.map_append, List.map_append]
        have h1 : (NodesF ((stk S m c (j + 1)).map (fun s : N × Int => s.1)) (PS.map (fun s : Option Addr × Int => s.1))).p F := hF _ (by repeat (first | exact List.mem_cons_self .. | apply List.mem_cons_of_mem))
        have h2 : NodesAt F psn m.kids := hF (NodesF m.kids psn) (by repeat (first | exact List.mem_cons_self .. | apply List.mem_cons_of_mem))
        obtain ⟨p, g1, g2⟩ := NodesAt.get h2 j hjlt
        rw [hpj] at g1; cases g1
        exact NodesAt.snoc g2 h1
    · have h0 : ¬ (0 : Int) ≤ (i : Int) - 1 := of_decide_eq_false h
      obtain rfl : i = 0 := by omega
      exact hk sl' K1 PS _ hst hPS (List.mem_cons_self ..) _
def laidL (K1 KT : Own) (r1 r2 : Nat) (x : SlD) : Own := K1 ++ (KT ++ treeB r1 r2 x)
structure LaidOk (k : Nat) (S : List (N × Int)) (ns : List FN) : Prop where
  sz : N.sizes (S.map (·.1)) ≤ k
  bd : ns.length + k ≤ 1099511627776
  pr : ∀ s ∈ S, -1 ≤ s.2 ∧ s.2 < ns.length
  kl : ∀ f ∈ ns, f.kids.length ≤ ns.length
theorem mem_modify {α : Type} {g : α → α} {x : α} : ∀ {l : List α} {i : Nat}, x ∈ l.modify i g → x ∈ l ∨ ∃ y ∈ l, x = g y
  | [], i, h => by cases i <;> simp at h
  | y :: l, 0, h => by
    simp only [List.modify_zero_cons, List.mem_cons] at h
    rcases h with rfl | h
    · exact .inr ⟨y, by simp, rfl⟩
    · exact .inl (by simp [h])
  | y :: l, i + 1, h => by
    simp only [List.modify_succ_cons, List.mem_cons] at h
    rcases h with rfl | h
    · exact .inl (by simp)
    · rcases mem_modify h with h | ⟨z, h1, h2⟩
      · exact .inl (by simp [h])
      · exact .inr ⟨z, by simp [h1], h2⟩
theorem LaidOk.step {k : Nat} {S : List (N × Int)} {ns : List FN} {m : N} {pp : Int} (h : LaidOk (k + 1) (S ++ [(m, pp)]) ns) : LaidOk k (stk S m ns.length 0) (addKid (ns ++ [⟨m.kind, m.text, m.num, m.pos, []⟩]) pp ns.length) := by
  obtain ⟨h1, h2, h3, h4⟩ := h
  refine ⟨?_, ?_, ?_, ?_⟩
  · have e : (stk S m ns.length 0).map (·.1) = S.map (·.1) ++ m.kids.reverse := by simp [stk, Function.comp_def]
    rw [e, sizes_append, sizes_reverse]
    simp only [List.map_append, List.map_cons, List.map_nil, sizes_append, N.sizes] at h1
    have := N.size_eq m
    omega
  · rw [addKid_len]; simp; omega
  · intro s hs
    rw [addKid_len]
    simp only [stk, List.drop_zero, List.mem_append, List.mem_map, List.mem_reverse] at hs
    rcases hs with hs | ⟨n, _, rfl⟩
    · have := h3 s (by simp [hs]); simp; omega
    · simp; omega
  · intro f hf
    rw [addKid_len]
    unfold addKid at hf
    split at hf
    · rcases mem_modify hf with hf | ⟨y, hy, rfl⟩
      · simp only [List.mem_append, List.mem_singleton] at hf
        rcases hf with hf | rfl
        · have := h4 f hf; simp; omega
        · simp
      · simp only [List.mem_append, List.mem_singleton] at hy
        rcases hy with hy | rfl
        · have := h4 y hy; simp; omega
        · simp
    · simp only [List.mem_append, List.mem_singleton] at hf
      rcases hf with hf | rfl
      · have := h4 f hf; simp; omega
      · simp
theorem laidGo_step (k : Nat) (S : List (N × Int)) (ns : List FN) (m : N) (pp : Int) : laidGo (k + 1) (S ++ [(m, pp)]).reverse ns = laidGo k (stk S m ns.length 0).reverse (addKid (ns ++ [⟨m.kind, m.text, m.num, m.pos, []⟩]) pp ns.length) := by
  simp [stk, laidGo]
def lbLaid (r1 r2 : Nat) (res : List FN) {ε σ : Type} : Label ε σ (List FN) :=
  { ι := { j : Nat × List (N × Int) × List FN // LaidOk j.1 j.2.1 j.2.2 ∧ laidGo j.1 j.2.1.reverse j.2.2 = res }, sp := fun _ => Pure.pure res,
    J := fun j vs L' => Fact.ex fun sl : SlD => Fact.ex fun K1 : Own => Fact.ex fun PS : List (Option Addr × Int) => Fact.ex fun x : SlD => Fact.ex fun es : List E => Fact.ex fun KT : Own =>
      (Fact.prop (vs = [.slice sl.1 sl.2.1 sl.2.2] ∧ L' = laidL K1 KT r1 r2 x ∧ Buf T_syntax_place 2 sl (rows encPl PS) K1 ∧ TreeP es x KT ∧ es.map (·.f) = j.1.2.2 ∧ PS.map (·.2) = j.1.2.1.map (·.2))).both (NodesF (j.1.2.1.map (·.1)) (PS.map (·.1))) }
def laidS {ε σ : Type} (n : N) : Sp ε σ (List FN) := if n.size ≤ 549755813888 then Pure.pure (laidGo n.size [(n, -1)] []) else Sp.stop
def TreeO (l : List FN) (x : HB [.slice]) (K : Own) : Fact := Fact.ex fun es : List E => Fact.prop (es.map (·.f) = l ∧ TreeP es x.1 K)
theorem laid_m {ε σ : Type} (I : Ifc ε σ) (n : N) (p : Option Addr) : MeetsO PG I (callS F_syntax_laid #[.pointer p]) (.c (.agg [.slice])) (laidS n) TreeO [NodeF n p] := by
  refine c_syntax_laid p ?_
  unfold t_syntax_laid laidS
  by_cases hsz : n.size ≤ 549755813888
  case neg => rw [if_neg hsz]; exact sim_stop
  rw [if_pos hsz]
  refine sim_loc (loc_alloc (z := [.slice none 0 0]) (by kernel_rfl)) ?_
  rintro _ _ _ ⟨r1, rfl, rfl, rfl⟩
  refine sim_loc (loc_alloc (z := [.slice none 0 0]) (by kernel_rfl)) ?_
  rintro _ _ _ ⟨r2, rfl, rfl, rfl⟩
  -- the stack's first place
  refine sim_loc (t1 := tSl) (post := fun y L' Γ' => ∃ b, y = (some ⟨b, 0, none⟩, 1, 1) ∧ L' = (b, blk T_syntax_place [.pointer p, .int .i64 (-1)]) :: [(r2, blk T_api_Tree [.slice none 0 0]), (r1, blk T_api_Tree [.slice none 0 0])] ∧ Γ' = [NodeF n p]) ?_ ?_
  · refine Loc.val fun r w F H hF hsp => ⟨(some ⟨w.heap.size, 0, none⟩, 1, 1), w.alloc (blk T_syntax_place [.pointer p, .int .i64 (-1)]), _, _, F, .inl ?_, Heap.le.refl F, hF, (hsp.new _).perm List.perm_middle, w.heap.size, rfl, rfl, rfl⟩
    have := run_sliceS (P := PG) (w := w) (t := T_Ssyntax_place) (e := T_syntax_place) (n := 1) (size := 2) (ps := #[(0, .agg #[.pointer p, .int .i64 (-1)])]) (cells := #[.pointer p, .int .i64 (-1)]) (zero := .agg #[.pointer none, .int .i64 0]) (by kernel_rfl) (by decide) (by kernel_rfl) (by kernel_rfl) (by decide)
    have h2 : (sliceS T_Ssyntax_place 1 #[(0, .agg #[.pointer p, .int .i64 (-1)])]).run PG w = .ok (.value (.slice (some ⟨w.heap.size, 0, none⟩) 1 1)) (w.alloc (blk T_syntax_place [.pointer p, .int .i64 (-1)])) := by simpa using this
    exact h2
  rintro _ _ _ ⟨bs, rfl, rfl, rfl⟩
  generalize hres : laidGo n.size [(n, -1)] [] = res
  refine sim_join (x := { ι := Unit, sp := fun _ => Pure.pure res, J := fun _ vs L' => Fact.ex fun x : SlD => Fact.ex fun es : List E => Fact.ex fun KT : Own => Fact.prop (vs = [] ∧ L' = KT ++ [(r2, blk T_api_Tree [.slice x.1 x.2.1 x.2.2]), (r1, blk T_api_Tree [.slice none 0 0])] ∧ TreeP es x KT ∧ es.map (·.f) = res) }) ?_ fun _ vs L' => ⟨?_, ?_⟩
  · refine sim_loop (x := lbLaid r1 r2 res) (fun j => j.1.1) ⟨(n.size, [(n, -1)], []), ⟨by simp [N.sizes], by simp; omega, by simp, by simp⟩, hres⟩ rfl
      (fun F hF => ⟨(some ⟨bs, 0, none⟩, 1, 1), [(bs, blk T_syntax_place [.pointer p, .int .i64 (-1)])], [(p, -1)], (none, 0, 0), [], [], ⟨rfl, rfl, ?_, ⟨[], rfl, Buf.nil .., by simp⟩, rfl, rfl⟩, NodesAt.one (hF _ (List.mem_cons_self ..))⟩) ?_ ?_
    · exact .inr ⟨bs, _, rfl, rfl, rfl, Nat.le_refl _, by show (1 : Nat) ≤ maxLen; unfold maxLen; decide, rfl, rfl⟩
    · rintro j vs L' F ⟨sl, K1, PS, x, es, KT, ⟨rfl, _⟩, _⟩; exact ⟨(sl, ()), rfl⟩
    · rintro ⟨⟨k, S, ns⟩, hok, hgo⟩ L' ⟨sl', ⟨⟩⟩
      refine Sim.ex fun sl => Sim.ex fun K1 => Sim.ex fun PS => Sim.ex fun x => Sim.ex fun es => Sim.ex fun KT => Sim.both (Sim.prop fun ⟨hv, hL, hst, htr, hes, hPS⟩ => ?_)
      subst hL
      obtain rfl : sl' = sl := by
        obtain ⟨a, b, c⟩ := sl'; obtain ⟨a2, b2, c2⟩ := sl
        have e1 : Value.slice a b c = Value.slice a2 b2 c2 := (List.cons.inj hv).1
        cases e1; rfl
      replace hgo : laidGo k S.reverse ns = res := hgo
      replace hok : LaidOk k S ns := hok
      replace hes : es.map (·.f) = ns := hes
      replace hPS : PS.map (·.2) = S.map (·.2) := hPS
      have hlen : PS.length = S.length := by have := congrArg List.length hPS; simpa using this
      have hsl : sl'.2.1 = PS.length := by
        have h1 := hst.len
        rw [rows_length encPl_len] at h1; omega
      refine sim_ite (fun h => ?_) (fun h => ?_)
      · -- a place is taken from the stack
        have hpos : 0 < PS.length := by have h' : (0 : Int) < (sl'.2.1 : Int) := of_decide_eq_true h; omega
        rcases nil_or_snoc PS with rfl | ⟨PS', ⟨q, pp⟩, rfl⟩
        · simp at hpos
        rcases nil_or_snoc S with rfl | ⟨S', ⟨m, pm⟩, rfl⟩
        · simp at hlen
        simp only [List.map_append, List.map_cons, List.map_nil] at hPS
        obtain ⟨hPS', hpp⟩ := List.append_inj' hPS rfl
        obtain rfl : pp = pm := by simpa using hpp
        obtain ⟨g, cells, rfl, ha, g3, g4, g5, g6, g7⟩ := hst.open (by omega)
        have hl1 : sl'.2.1 = PS'.length + 1 := by rw [hsl]; simp
        have hw : IntKind.i64.wrap ((sl'.2.1 : Int) - 1) = ((PS'.length : Nat) : Int) := by
          have hb1 : S'.length + 1 ≤ 1099511627776 := by
            have h1 := sizes_le ((S' ++ [(m, pp)]).map (·.1)); have h2 := hok.sz; have h3 := hok.bd; simp at h1 h2; omega
          have hl2 : PS'.length = S'.length := by simpa using hlen
          rw [wrap_id (by omega) (by omega)]; omega
        have hrow := Buf.row (e := T_syntax_place) (i := PS'.length) g7 (by omega)
        have hrow2 : ((rows encPl (PS' ++ [(q, pp)])).drop (PS'.length * 2)).take 2 = [.pointer q, .int .i64 pp] := by
          rw [rows_snoc, List.drop_append, List.drop_of_length_le (by rw [rows_length encPl_len]; omega), rows_length encPl_len, Nat.mul_comm, Nat.sub_self]; rfl
        refine Sim.know (A := NodesF (S'.map (·.1)) (PS'.map (·.1))) (fun F hF => ?_) (Sim.know (A := NodeF m q) (fun F hF => ?_) ?_)
        · have h1 : NodesAt F ((PS' ++ [(q, pp)]).map (·.1)) ((S' ++ [(m, pp)]).map (·.1)) := hF _ (List.mem_cons_self ..)
          simp only [List.map_append, List.map_cons, List.map_nil] at h1
          exact (NodesAt.split h1).1
        · have h1 : NodesAt F ((PS' ++ [(q, pp)]).map (·.1)) ((S' ++ [(m, pp)]).map (·.1)) := hF _ (List.mem_cons_of_mem _ (List.mem_cons_self ..))
          simp only [List.map_append, List.map_cons, List.map_nil] at h1
          exact (NodesAt.split h1).2
        refine Sim.weak (Γ' := [NodeF m q, NodesF (S'.map (·.1)) (PS'.map (·.1))]) ?_ (fun A hA => by simp only [List.mem_cons, List.not_mem_nil, or_false] at hA; rcases hA with rfl | rfl <;> exact (by repeat (first | exact List.mem_cons_self .. | apply List.mem_cons_of_mem)))
        refine sim_idxO (n := 2) (x := sl') PS'.length ha (by kernel_rfl) hw (by omega) ?_
        refine sim_ldOA (T0 := T_syntax_place) (l := cells) (bs := [.ptr, .int .i64]) (q, pp, ()) (List.mem_cons_self ..) (by kernel_rfl) rfl (by
          show ((cells.drop (PS'.length * 2)).take 2) = _
          rw [hrow, hrow2]; rfl) ?_
        refine sim_varF (c := true) (z := [.pointer none, .int .i64 0]) (by kernel_rfl) (by kernel_rfl) rfl (by simp [Value.cells, Value.oneCell']) fun b7 => ?_
        refine sim_subO (x := sl') PS'.length (by kernel_rfl) (by kernel_rfl) (fun b hb => by rw [ha] at hb; cases hb; rfl) hw (by omega) ?_
        refine sim_ldO1 (T0 := T_api_Tree) (l := [.slice x.1 x.2.1 x.2.2]) (b1 := .slice) x (by simp [laidL, treeB]) (by kernel_rfl) rfl rfl ?_
        have hel : es.length = ns.length := by rw [← hes]; simp
        have hxl : x.2.1 = ns.length := by
          obtain ⟨K0, _, hB, _⟩ := htr
          have h1 := hB.len; rw [rows_length encE_len] at h1; omega
        have hk0 : 0 < k := by have h1 := hok.sz; simp only [List.map_append, List.map_cons, List.map_nil, sizes_append, N.sizes] at h1; have := N.size_eq m; omega
        obtain ⟨k', rfl⟩ : ∃ k', k = k' + 1 := ⟨k - 1, by omega⟩
        have hbd := hok.bd
        have hpr := hok.pr (m, pp) (by simp)
        refine sim_addNode (Kst := [(g, blk T_syntax_place cells)]) (b7 := b7) (pp := pp) (m := m) (qp := q) htr (by repeat (first | exact List.mem_cons_self .. | apply List.mem_cons_of_mem)) (by repeat (first | exact List.mem_cons_self .. | apply List.mem_cons_of_mem)) (by omega) fun x2 KT2 htr2 => ?_
        refine sim_ldF (b1 := .int .i64) pp (by repeat (first | exact List.mem_cons_self .. | apply List.mem_cons_of_mem)) (by kernel_rfl) rfl rfl ?_
        refine sim_join (x := { ι := Unit, sp := fun _ => Pure.pure res, J := fun _ vs L' => Fact.ex fun es3 : List E => Fact.ex fun KT3 : Own => Fact.prop (vs = [] ∧ L' = [(g, blk T_syntax_place cells)] ++ (KT3 ++ treeB r1 r2 x2) ∧ TreeP es3 x2 KT3 ∧ es3.map (·.f) = addKid (ns ++ [⟨m.kind, m.text, m.num, m.pos, []⟩]) pp ns.length) }) ?_ fun _ vs L' => ⟨?_, ?_⟩
        · refine sim_ite (fun h => ?_) (fun h => ?_)
          · have hpp0 : (0 : Int) ≤ pp := of_decide_eq_true h
            have hpl : pp < (ns.length : Int) := hpr.2
            refine sim_addKid (b7 := b7) (pp := pp) (qv := .pointer q) x.2.1 htr2 pp.toNat (by simp; omega) (by omega) (by repeat (first | exact List.mem_cons_self .. | apply List.mem_cons_of_mem)) ?_ fun es3 KT3 htr3 he3 => ?_
            · intro e he
              have hf : e.f ∈ ns ∨ e.f = ⟨m.kind, m.text, m.num, m.pos, []⟩ := by
                simp only [List.mem_append, List.mem_singleton] at he
                rcases he with he | rfl
                · left; rw [← hes]; exact List.mem_map.2 ⟨e, he, rfl⟩
                · exact .inr rfl
              rcases hf with hf | hf
              · have := hok.kl _ hf; omega
              · rw [hf]; simp
            · refine sim_outX rfl () rfl fun F hF => ⟨es3, KT3, rfl, rfl, htr3, ?_⟩
              rw [he3, hxl, List.map_append, hes]; rfl
          · have hpp0 : ¬ (0 : Int) ≤ pp := of_decide_eq_false h
            refine sim_outX rfl () rfl fun F hF => ⟨_, KT2, rfl, rfl, htr2, ?_⟩
            unfold addKid
            rw [if_neg hpp0, List.map_append, hes]; rfl
        · rintro F ⟨es3, KT3, rfl, _⟩; exact ⟨(), rfl⟩
        · rintro ⟨⟩
          refine Sim.ex fun es3 => Sim.ex fun KT3 => Sim.prop fun ⟨_, hL, htr3, he3⟩ => ?_
          subst hL
          refine sim_ldF (b1 := .ptr) q (by repeat (first | exact List.mem_cons_self .. | apply List.mem_cons_of_mem)) (by kernel_rfl) rfl rfl ?_
          refine sim_node_kids (n := m) (x := q) (by repeat (first | exact List.mem_cons_self .. | apply List.mem_cons_of_mem)) fun bn sln psn hq => ?_
          subst hq
          refine sim_nil ?_
          refine sim_ldF (b1 := .slice) sln (List.mem_cons_self ..) (by kernel_rfl) rfl rfl ?_
          refine Sim.note (φ := sln.2.1 = m.kids.length) (fun F hF => ?_) fun hkl => ?_
          · have h1 : NodesAt F psn m.kids := hF (NodesF m.kids psn) (by repeat (first | exact List.mem_cons_self .. | apply List.mem_cons_of_mem))
            rw [(hF (Sl 1 encPtr sln psn) (by repeat (first | exact List.mem_cons_self .. | apply List.mem_cons_of_mem))).1, NodesAt.length h1]
          have htk : Buf T_syntax_place 2 (sl'.1, PS'.length, sl'.2.2) (rows encPl PS') [(g, blk T_syntax_place cells)] := by
            have h1 := hst.take (m := PS'.length) (by omega)
            rw [rows_snoc, List.take_left' (by rw [rows_length encPl_len]; omega)] at h1
            exact h1
          have hsz := hok.sz
          simp only [List.map_append, List.map_cons, List.map_nil, sizes_append, N.sizes] at hsz
          have hs1 := sizes_le (S'.map (·.1))
          have hs2 := sizes_le m.kids
          have hs3 := N.size_eq m
          simp only [List.length_map] at hs1
          rw [show (x.2.1 : Int) = ((ns.length : Nat) : Int) by rw [hxl]]
          refine sim_pushKids (b7 := b7) (m := m) (pp := pp) (sl := (sl'.1, PS'.length, sl'.2.2)) (S := S') (PS := PS') ns.length (ksl := sln) (by repeat (first | exact List.mem_cons_self .. | apply List.mem_cons_of_mem)) (by repeat (first | exact List.mem_cons_self .. | apply List.mem_cons_of_mem)) htk hPS' (by repeat (first | exact List.mem_cons_self .. | apply List.mem_cons_of_mem)) (by omega) hkl fun sl3 K3 PS3 Γ3 hb3 hp3 hn3 xl => ?_
          refine sim_outX (x := { ι := { j : (lbLaid (ε := ε) (σ := σ) r1 r2 res).ι // j.1.1 < k' + 1 }, sp := fun j => (lbLaid r1 r2 res).sp j.1, J := fun j vs L => (lbLaid (ε := ε) (σ := σ) r1 r2 res).J j.1 vs L }) (by simp [Labels.set]) ⟨⟨(k', stk S' m ns.length 0, addKid (ns ++ [⟨m.kind, m.text, m.num, m.pos, []⟩]) pp ns.length), hok.step, by rw [← laidGo_step]; exact hgo⟩, Nat.lt_succ_self k'⟩ rfl
            fun F hF => ⟨sl3, K3, PS3, x2, es3, KT3, ⟨rfl, rfl, hb3, htr3, he3, hp3⟩, hF _ hn3⟩
      · have h0 : PS.length = 0 := by have h' : ¬ (0 : Int) < (sl'.2.1 : Int) := of_decide_eq_false h; omega
        have hS0 : S = [] := List.length_eq_zero_iff.1 (by omega)
        subst hS0
        refine sim_drop (L' := KT ++ [(r2, blk T_api_Tree [.slice x.1 x.2.1 x.2.2]), (r1, blk T_api_Tree [.slice none 0 0])]) (List.sublist_append_right ..) ?_
        refine sim_outX rfl () rfl fun F hF => ⟨x, es, KT, rfl, rfl, htr, ?_⟩
        rw [hes, ← hgo]; simp [laidGo_nil]
  · rintro F ⟨x, es, KT, rfl, _⟩; exact ⟨(), rfl⟩
  · rintro ⟨⟩
    refine Sim.ex fun x => Sim.ex fun es => Sim.ex fun KT => Sim.prop fun ⟨_, hL, htr, hes⟩ => ?_
    subst hL
    refine sim_loc (loc_ldA (bs := [.slice]) (x := (x, ())) (Rd.own (b := r2) (o := blk T_api_Tree [.slice x.1 x.2.1 x.2.2]) (List.mem_append_right _ (List.mem_cons_self ..))) (by kernel_rfl) rfl rfl) ?_
    rintro _ _ _ ⟨rfl, rfl, rfl⟩
    refine sim_loc (loc_st (L1 := KT ++ [(r2, blk T_api_Tree [.slice x.1 x.2.1 x.2.2])]) (L2 := []) (T := T_api_Tree) (T0 := T_api_Tree) (l := [.slice none 0 0]) (c := true) (by simp) (by kernel_rfl) rfl (Nat.le_of_ble_eq_true rfl) (by simp [Value.cells, Value.oneCell'])) ?_
    rintro _ _ _ ⟨rfl, rfl⟩
    refine sim_retO KT (by simp) (x, ()) (fun r w F H hF hsp => run_resRcA (vs := [.slice x.1 x.2.1 x.2.2]) (by kernel_rfl) (hsp.own r1 (blk T_api_Tree [.slice x.1 x.2.1 x.2.2]) (by simp [splice, Value.cells])) rfl rfl) (fun F hF => ⟨es, hes, htr⟩)
end Go.Proofs.YtjlgcpgjdgeejaaGreatDoor
end

/- The scanner: what its functions do to its state, and what they hand back. Conditions: none. -/
section
namespace Go.Proofs.YtjlgcpgjdgeejaaGreatDoor
open Go
set_option linter.unusedSimpArgs false
set_option linter.unusedVariables false
set_option linter.constructorNameAsVariable false
set_option maxRecDepth 100000

def scCells (sl : SlD) (p : Nat) (osl : SlD) : List Value := [.slice sl.1 sl.2.1 sl.2.2, .int .i64 p, .slice osl.1 osl.2.1 osl.2.2]
def SI (b : ByteArray) (sl : SlD) (pb : Nat) : Ifc Empty SSt where
  inv s H := Fact.ex fun osl : SlD => Fact.ex fun K : Own => Fact.prop (H = (pb, blk T_scan_Scanner (scCells sl s.pos osl)) :: K ∧ Buf T_bool 1 osl (s.opn.map Value.bool) K ∧ s.pos ≤ b.size)
  err _ _ := False
section
variable {b : ByteArray} {sl : SlD} {pb : Nat} {β : Type} {t : Ty} {Rel : β → t.den → Own → Fact} {Δ : Labels Empty SSt β} {md : Mode} {L Lq : Own} {Γ Γq : List Fact} {st : SSt} {run : Option (Res Empty SSt β)}
theorem s_le {m : T} (h : st.pos ≤ b.size → SimK PG (SI b sl pb) t Rel Δ md st m run L Γ) : SimK PG (SI b sl pb) t Rel Δ md st m run L Γ :=
  k_inv (fun H F ⟨_, _, _, _, h⟩ => h) h
theorem s_b {k : SlD → T} (hk : SimK PG (SI b sl pb) t Rel Δ none st (k sl) run L Γ) : SimK PG (SI b sl pb) t Rel Δ md st (.op (ldS T_Suint8 (.pointer (some ⟨pb, 0, none⟩))) tSl k) run L Γ :=
  k_rd (b1 := .slice) sl (by kernel_rfl) rfl (fun H F ⟨osl, K, hH, _⟩ => ⟨scCells sl st.pos osl, T_scan_Scanner, hH ▸ List.mem_cons_self .., rfl⟩) hk
theorem s_bq {k : SlD → T} (hk : SimK PG (SI b sl pb) t Rel Δ (some (Γq, Lq)) st (k sl) run L Γ) : SimK PG (SI b sl pb) t Rel Δ (some (Γq, Lq)) st (.opq (ldS T_Suint8 (.pointer (some ⟨pb, 0, none⟩))) tSl k) run L Γ :=
  k_rdq (b1 := .slice) sl (by kernel_rfl) rfl (fun H F ⟨osl, K, hH, _⟩ => ⟨scCells sl st.pos osl, T_scan_Scanner, hH ▸ List.mem_cons_self .., rfl⟩) hk
theorem s_pos {k : Int → T} (hk : SimK PG (SI b sl pb) t Rel Δ none st (k st.pos) run L Γ) : SimK PG (SI b sl pb) t Rel Δ md st (.op (ldS T_int (.pointer (some ⟨pb, 0 + 1, none⟩))) tI k) run L Γ :=
  k_rd (b1 := .int .i64) (st.pos : Int) (by kernel_rfl) rfl (fun H F ⟨osl, K, hH, _⟩ => ⟨scCells sl st.pos osl, T_scan_Scanner, hH ▸ List.mem_cons_self .., rfl⟩) hk
theorem s_posq {k : Int → T} (hk : SimK PG (SI b sl pb) t Rel Δ (some (Γq, Lq)) st (k st.pos) run L Γ) : SimK PG (SI b sl pb) t Rel Δ (some (Γq, Lq)) st (.opq (ldS T_int (.pointer (some ⟨pb, 0 + 1, none⟩))) tI k) run L Γ :=
  k_rdq (b1 := .int .i64) (st.pos : Int) (by kernel_rfl) rfl (fun H F ⟨osl, K, hH, _⟩ => ⟨scCells sl st.pos osl, T_scan_Scanner, hH ▸ List.mem_cons_self .., rfl⟩) hk
theorem s_set {k : T} {v : Int} (n : Nat) (hv : v = n) (hn : n ≤ b.size) (hk : SimK PG (SI b sl pb) t Rel Δ none { st with pos := n } k run L Γ) :
    SimK PG (SI b sl pb) t Rel Δ md st (.op (stS T_int (.pointer (some ⟨pb, 0 + 1, none⟩)) (.int .i64 v)) tU fun _ => k) run L Γ :=
  k_wr (c := false) { st with pos := n } (by kernel_rfl) rfl (by simp [Value.cells, Value.oneCell']) (fun H F ⟨osl, K, hH, hB, hp⟩ => ⟨[], _, _, K, hH, Nat.le_of_ble_eq_true rfl, osl, K, by subst hv; rfl, hB, hn⟩) hk
theorem s_push {k : T} {c : Bool} (hlen : st.opn.length < 1048576) (hk : SimK PG (SI b sl pb) t Rel Δ none { st with opn := st.opn ++ [c] } k run L Γ) :
    SimK PG (SI b sl pb) t Rel Δ md st (.op (ldS T_Sbool (.pointer (some ⟨pb, 0 + 2, none⟩))) tSl fun r21 => .op (sliceS T_Sbool 1 #[(0, .bool c)]) tSl fun r22 => .op (appS #[T_Sbool, T_Sbool] T_Sbool #[.slice r21.1 r21.2.1 r21.2.2, .slice r22.1 r22.2.1 r22.2.2]) tSl fun r23 =>
      .op (stS T_Sbool (.pointer (some ⟨pb, 0 + 2, none⟩)) (.slice r23.1 r23.2.1 r23.2.2)) tU fun _ => k) run L Γ := by
  refine k_lift fun H => at_ex fun osl => at_ex fun K => at_prop fun ⟨hH, hB, hp⟩ => ?_
  subst hH
  refine at_loc (loc_ld1 (b1 := .slice) osl (Rd.own (List.mem_cons_self ..)) (by kernel_rfl) rfl rfl) ?_
  rintro _ _ _ ⟨rfl, rfl, rfl⟩
  refine at_loc (loc_oneV (e := T_bool) (size := 1) (z := .bool false) [.bool c] (by kernel_rfl) (by kernel_rfl) (by decide) (by decide) (by kernel_rfl)) ?_
  rintro _ _ _ ⟨bn, rfl, rfl, rfl⟩
  have hl := hB.len
  simp only [List.length_map] at hl
  refine at_perm (L' := K ++ ((pb, blk T_scan_Scanner (scCells sl st.pos osl)) :: L)) List.perm_middle ?_
  refine at_loc (loc_append (L0 := (pb, blk T_scan_Scanner (scCells sl st.pos osl)) :: L) (K := K) (size := 1) (bytes := 1) (e := T_bool) (m := 1) (news := [.bool c]) (by kernel_rfl) rfl hB (Rd.at (List.mem_cons_self ..)) rfl rfl rfl (by decide) (by simp [Value.oneCell']) (by omega) (by omega)) ?_
  rintro x _ _ ⟨K', rfl, rfl, hx, hb'⟩
  refine at_loc (loc_st (L1 := K') (L2 := L) (l := scCells sl st.pos osl) (T := T_Sbool) (T0 := T_scan_Scanner) (c := false) rfl (by kernel_rfl) rfl (Nat.le_of_ble_eq_true rfl) (by simp [Value.cells, Value.oneCell'])) ?_
  rintro _ _ _ ⟨rfl, rfl⟩
  intro r w F res S hs hF hsp hq
  refine hk ((pb, blk T_scan_Scanner (scCells sl st.pos x)) :: K') r w F res S hs (Holds.cons ⟨x, K', rfl, by simpa using hb', hp⟩ fun A hA => hF A (List.mem_cons_of_mem _ hA)) ?_ trivial
  exact hsp.perm (List.perm_middle (a := (pb, blk T_scan_Scanner (scCells sl st.pos x))) (l₁ := K') (l₂ := L)).symm
theorem s_pop {k : T} {f : Int → Int} (hf : ∀ n : Nat, n ≤ 9223372036854775807 → f n = ((n - 1 : Nat) : Int)) (hk : SimK PG (SI b sl pb) t Rel Δ none { st with opn := st.opn.take (st.opn.length - 1) } k run L Γ) :
    SimK PG (SI b sl pb) t Rel Δ md st (.draw <| .opq (ldS T_Sbool (.pointer (some ⟨pb, 0 + 2, none⟩))) tSl fun r27 => .opq (ldS T_Sbool (.pointer (some ⟨pb, 0 + 2, none⟩))) tSl fun r28 =>
      .opq (subS T_Sbool (.slice r27.1 r27.2.1 r27.2.2) none (some (.int .i64 (f (r28.2.1 : Int)))) none) tSl fun r29 =>
      .op (stS T_Sbool (.pointer (some ⟨pb, 0 + 2, none⟩)) (.slice r29.1 r29.2.1 r29.2.2)) tU fun _ => k) run L Γ := by
  refine k_lift fun H => at_ex fun osl => at_ex fun K => at_prop fun ⟨hH, hB, hp⟩ => ?_
  subst hH
  have hl := hB.len
  simp only [List.length_map, Nat.mul_one] at hl
  have hcap : osl.2.1 ≤ osl.2.2 ∧ osl.2.2 ≤ maxLen ∧ ∀ a, osl.1 = some a → a.spot = none := by
    rcases hB with ⟨_, rfl, _⟩ | ⟨g, cells, _, h2, _, h4, h5, _⟩
    · exact ⟨Nat.le_refl _, by decide, fun a h => by cases h⟩
    · exact ⟨h4, h5, fun a h => by rw [h2] at h; cases h; rfl⟩
  have hf' := hf osl.2.1 (by have := hcap.1; have := hcap.2.1; unfold maxLen at this; omega)
  refine at_draw [(pb, blk T_scan_Scanner (scCells sl st.pos osl))] (fun p hp => by simp at hp; simp [hp]) ?_
  refine at_opq (t1 := tSl) osl (qval_ld1 (QRd.own (List.mem_cons_self ..)) (by kernel_rfl) rfl rfl) ?_
  refine at_opq (t1 := tSl) osl (qval_ld1 (QRd.own (List.mem_cons_self ..)) (by kernel_rfl) rfl rfl) ?_
  refine at_opq (t1 := tSl) (osl.1, osl.2.1 - 1, osl.2.2) (qval_pure fun w => ?_) ?_
  · show (subS T_Sbool (.slice osl.1 osl.2.1 osl.2.2) none (some (.int .i64 (f (osl.2.1 : Int)))) none).run PG w = _
    rw [hf']
    rw [run_subH (k := .i64) (by kernel_rfl) ⟨_, rfl⟩ hcap.2.2 (by omega) (by have := hcap.1; omega)]
    simp [Ty.enc, C.enc, B.enc]
  refine at_loc (loc_st (L1 := []) (L2 := K ++ L) (l := scCells sl st.pos osl) (T := T_Sbool) (T0 := T_scan_Scanner) (c := false) rfl (by kernel_rfl) rfl (Nat.le_of_ble_eq_true rfl) (by simp [Value.cells, Value.oneCell'])) ?_
  rintro _ _ _ ⟨rfl, rfl⟩
  intro r w F res S hs hF hsp hq
  refine hk ((pb, blk T_scan_Scanner (scCells sl st.pos (osl.1, osl.2.1 - 1, osl.2.2))) :: K) r w F res S hs (Holds.cons ⟨_, K, rfl, ?_, hp⟩ fun A hA => hF A hA) hsp trivial
  have := hB.take (m := osl.2.1 - 1) (by omega)
  simpa [List.map_take, hl] using this
end
theorem letter_m {ε : Type} (c : Int) : Meets PG (I0 : Ifc ε Unit) (callS F_scan_Letter #[.int .u8 c]) tB (Pure.pure (letterB c)) RelEq [] := by
  refine c_scan_Letter c (k_open fun st => ?_)
  unfold t_scan_Letter
  repeat' (first | refine k_ite (fun h => ?_) (fun h => ?_) | refine k_ret1 (t := tB) _ rfl ?_)
  all_goals (show _ = _; simp_all [letterB, Pure.pure, Sp.pure] <;> omega)
theorem digit_m {ε : Type} (c : Int) : Meets PG (I0 : Ifc ε Unit) (callS F_scan_Digit #[.int .u8 c]) tB (Pure.pure (digitB c)) RelEq [] := by
  refine c_scan_Digit c (k_open fun st => ?_)
  unfold t_scan_Digit
  repeat' (first | refine k_ite (fun h => ?_) (fun h => ?_) | refine k_ret1 (t := tB) _ rfl ?_)
  all_goals (show _ = _; simp_all [digitB, Pure.pure, Sp.pure] <;> omega)
theorem reserved_m {ε : Type} (s : ByteArray) (hs : s.size ≤ 1048576) : Meets PG (I0 : Ifc ε Unit) (callS F_scan_Reserved #[.string s]) tB (Pure.pure (resB s)) RelEq [MxF] := by
  refine c_scan_Reserved s (k_open fun st => ?_)
  unfold t_scan_Reserved
  refine k_pv (t1 := tS) (k_sp ++ s) (PVal.pure fun w => run_cat _ _ (by have : k_sp.size = 1 := rfl; omega)) ?_
  refine k_pv (t1 := tS) (k_sp ++ s ++ k_sp) (PVal.pure fun w => run_cat _ _ (by have : k_sp.size = 1 := rfl; simp; omega)) ?_
  refine k_val (contains_m _ _ (by decide)) (fun A hA => hA) ?_
  exact k_ret1 (t := tB) _ rfl rfl
end Go.Proofs.YtjlgcpgjdgeejaaGreatDoor
end
