/- A part of the claim: general tools, trees of the program, and what its functions come to (TrF to TrK). Conditions: as its theorems say. -/
import Derived.Test.YtjlgcpgjdgeejaaGreatDoorClC
import Derived.Laws.Cover3
import Derived.Lib.SlBytesConst
import Derived.Test.YtjlgcpgjdgeejaaGreatDoorProg

section
namespace Go.Proofs.YtjlgcpgjdgeejaaGreatDoor
open Go
set_option linter.unusedVariables false
set_option maxRecDepth 100000
noncomputable section
def xu:An :=
 .s (.r [none]) (.s (.r [none,none,none,none,none,none,none,none,none,none,none,none,none,none,none,none,none,none,none,none,none,none,none]) (.x))
def lT (a0_c:Int):T :=
 .ite (decide ((a0_c:Int)≥97)) (
 .ite (decide ((a0_c:Int)≤122)) (
 .ret #[.v (.bool true)]) (
 .ite (decide ((a0_c:Int)≥65)) (
 .ite (decide ((a0_c:Int)≤90)) (
 .ret #[.v (.bool true)]) (
 .ite ((a0_c:Int)==95) (
 .ret #[.v (.bool true)]) (
 .ret #[.v (.bool ((a0_c:Int)==36))]))) (
 .ite ((a0_c:Int)==95) (
 .ret #[.v (.bool true)]) (
 .ret #[.v (.bool ((a0_c:Int)==36))])))) (
 .ite (decide ((a0_c:Int)≥65)) (
 .ite (decide ((a0_c:Int)≤90)) (
 .ret #[.v (.bool true)]) (
 .ite ((a0_c:Int)==95) (
 .ret #[.v (.bool true)]) (
 .ret #[.v (.bool ((a0_c:Int)==36))]))) (
 .ite ((a0_c:Int)==95) (
 .ret #[.v (.bool true)]) (
 .ret #[.v (.bool ((a0_c:Int)==36))])))
theorem AT (a0_c:Int):bh Tryz.prog Tryz.f107 xu [.int .u8 a0_c]=lT a0_c:=by kernel_rfl
theorem AK {ε σ β:Type} {I:av ε σ} {t:Ty} {s:Sp ε σ β} {Rel:β→t.den→al→Fact} {Γ:List Fact} (a0_c:Int) (h:Sim Tryz.prog I t Rel noLabel none (lT a0_c) s [] Γ):MeetsO Tryz.prog I (aa fo #[.int .u8 a0_c]) t s Rel Γ :=
 aj (args:=[.int .u8 a0_c]) Tryz.func107 rfl rfl (Nat.le_of_ble_eq_true rfl) (by rw [AT]; exact h)
def Aa:An :=
 .s (.r [none]) (.s (.r [none,none,none,none,none,none,none]) (.x))
def nm (a0_c:Int):T :=
 .ite (decide ((a0_c:Int)≥48)) (
 .ret #[.v (.bool (decide ((a0_c:Int)≤57)))]) (
 .ret #[.v (.bool false)])
theorem CO (a0_c:Int):bh Tryz.prog Tryz.f109 Aa [.int .u8 a0_c]=nm a0_c:=by kernel_rfl
theorem Bg {ε σ β:Type} {I:av ε σ} {t:Ty} {s:Sp ε σ β} {Rel:β→t.den→al→Fact} {Γ:List Fact} (a0_c:Int) (h:Sim Tryz.prog I t Rel noLabel none (nm a0_c) s [] Γ):MeetsO Tryz.prog I (aa eY #[.int .u8 a0_c]) t s Rel Γ :=
 aj (args:=[.int .u8 a0_c]) Tryz.func109 rfl rfl (Nat.le_of_ble_eq_true rfl) (by rw [CO]; exact h)
def ud:An :=
 .s (.r [none]) (.s (.r [none,some tS,some tS,some tB,none]) (.x))
def j7 (a0_s:ByteArray):T :=
 .op (bT .add aF (.string k_sp) (.string a0_s)) tS fun r1 =>
 .op (bT .add aF (.string r1) (.string k_sp)) tS fun r2 =>
 .op (aa ef #[.string D9,.string r2]) tB fun r3 =>
 .ret #[.v (.bool r3)]
theorem uW (a0_s:ByteArray):bh Tryz.prog Tryz.f165 ud [.string a0_s]=j7 a0_s:=by kernel_rfl
theorem vO {ε σ β:Type} {I:av ε σ} {t:Ty} {s:Sp ε σ β} {Rel:β→t.den→al→Fact} {Γ:List Fact} (a0_s:ByteArray) (h:Sim Tryz.prog I t Rel noLabel none (j7 a0_s) s [] Γ):MeetsO Tryz.prog I (aa gW #[.string a0_s]) t s Rel Γ :=
 aj (args:=[.string a0_s]) Tryz.func165 rfl rfl (Nat.le_of_ble_eq_true rfl) (by rw [uW]; exact h)
def Ah:An :=
 .s (.r [none]) (.s (.r [none,none,some tA,none]) (.x))
def nC (a0_b:Option Addr × Nat × Nat):T :=
 .op (cJ bX (.agg #[.slice a0_b.1 a0_b.2.1 a0_b.2.2,.int .i64 0,.slice none 0 0])) tA fun r1 =>
 .ret #[.v (.pointer (some r1))]
theorem CG (a0_b:Option Addr × Nat × Nat):bh Tryz.prog Tryz.f71 Ah [.slice a0_b.1 a0_b.2.1 a0_b.2.2]=nC a0_b:=by kernel_rfl
theorem BO {ε σ β:Type} {I:av ε σ} {t:Ty} {s:Sp ε σ β} {Rel:β→t.den→al→Fact} {Γ:List Fact} (a0_b:Option Addr × Nat × Nat) (h:Sim Tryz.prog I t Rel noLabel none (nC a0_b) s [] Γ):MeetsO Tryz.prog I (aa nr #[.slice a0_b.1 a0_b.2.1 a0_b.2.2]) t s Rel Γ :=
 aj (args:=[.slice a0_b.1 a0_b.2.1 a0_b.2.2]) Tryz.func71 rfl rfl (Nat.le_of_ble_eq_true rfl) (by rw [CG]; exact h)
def xF:An :=
 .s (.r [none]) (.s (.r [none,none,none,some ah,none,none,none,none,none,none,none,none,none,none,some ah,none,none,none,none,none,some ah,some tS,none,none,none,none]) (.x))
def mL (a0_s:Addr) (a1_at:Int) (a2_x:ByteArray):T :=
 .op (ai aC (.pointer (some a0_s))) ah fun r1 =>
 .ite (decide ((IntKind.i64.wrap ((r1.2.1:Int) - a1_at):Int)≥(a2_x.size:Int))) (
 .op (ai aC (.pointer (some a0_s))) ah fun r2 =>
 .op (d8 aC (.slice r2.1 r2.2.1 r2.2.2) (some (.int .i64 a1_at)) (some (.int .i64 (IntKind.i64.wrap (a1_at+(a2_x.size:Int))))) none) ah fun r3 =>
 .op (nR aC aF (.slice r3.1 r3.2.1 r3.2.2)) tS fun r4 =>
 .ret #[.v (.bool (r4.toList==a2_x.toList))]) (
 .ret #[.v (.bool false)])
theorem Ax (a0_s:Addr) (a1_at:Int) (a2_x:ByteArray):bh Tryz.prog Tryz.f162 xF [.pointer (some a0_s),.int .i64 a1_at,.string a2_x]=mL a0_s a1_at a2_x:=by kernel_rfl
theorem Am {ε σ β:Type} {I:av ε σ} {t:Ty} {s:Sp ε σ β} {Rel:β→t.den→al→Fact} {Γ:List Fact} (a0_s:Addr) (a1_at:Int) (a2_x:ByteArray) (h:Sim Tryz.prog I t Rel noLabel none (mL a0_s a1_at a2_x) s [] Γ):MeetsO Tryz.prog I (aa jc #[.pointer (some a0_s),.int .i64 a1_at,.string a2_x]) t s Rel Γ :=
 aj (args:=[.pointer (some a0_s),.int .i64 a1_at,.string a2_x]) Tryz.func162 rfl rfl (Nat.le_of_ble_eq_true rfl) (by rw [Ax]; exact h)
def wQ:An :=
 .s (.r [some tA]) (.s (.d (.q 0 none (.q 1 none (.q 2 none (.q 3 none (.q 4 (some ah) (.q 5 none (.q 6 none (.q 7 none (.q 8 (some tI) (.q 9 none (.q 10 (some ah) (.q 11 (some tS) (.q 12 none (.q 13 none (.q 14 none (.q 15 (some tI) (.q 16 none (.q 17 none (.l 18 (some tU) (.e))))))))))))))))))))) (.x))
def mA (a0_s:Addr) (a1_kind:Int) (a2_end:Int):T :=
 .op (bj ae) tA fun r1 =>
 .draw <|
 .opq (ai aC (.pointer (some a0_s))) ah fun r2 =>
 .opq (ai ak (.pointer (some ⟨a0_s.block,a0_s.off+1,none⟩))) tI fun r3 =>
 .opq (d8 aC (.slice r2.1 r2.2.1 r2.2.2) (some (.int .i64 r3)) (some (.int .i64 a2_end)) none) ah fun r4 =>
 .opq (nR aC aF (.slice r4.1 r4.2.1 r4.2.2)) tS fun r5 =>
 .opq (ai ak (.pointer (some ⟨a0_s.block,a0_s.off+1,none⟩))) tI fun r6 =>
 .op (aW ae (.pointer (some r1)) (.agg #[.int .i64 a1_kind,.string r5,.int .i64 r6,.int .i64 a2_end])) tU fun _ =>
 .ret #[.c (.pointer (some r1)) ae]
theorem AZ (a0_s:Addr) (a1_kind:Int) (a2_end:Int):bh Tryz.prog Tryz.f164 wQ [.pointer (some a0_s),.int .i64 a1_kind,.int .i64 a2_end]=mA a0_s a1_kind a2_end:=by kernel_rfl
theorem zA {ε σ β:Type} {I:av ε σ} {t:Ty} {s:Sp ε σ β} {Rel:β→t.den→al→Fact} {Γ:List Fact} (a0_s:Addr) (a1_kind:Int) (a2_end:Int) (h:Sim Tryz.prog I t Rel noLabel none (mA a0_s a1_kind a2_end) s [] Γ):MeetsO Tryz.prog I (aa gC #[.pointer (some a0_s),.int .i64 a1_kind,.int .i64 a2_end]) t s Rel Γ :=
 aj (args:=[.pointer (some a0_s),.int .i64 a1_kind,.int .i64 a2_end]) Tryz.func164 rfl rfl (Nat.le_of_ble_eq_true rfl) (by rw [AZ]; exact h)
def u4:An :=
 .s (.r [some tA]) (.s (.r [none,none,none,some tI,none]) (.s (.j [(3,.b (.int .i64))] (.b (.l [(3,.b (.int .i64))] (.s (.s (.r [none,none,none,none,some ah,none,none,none,none,none,none,some ah,none,some tA,some cB,some tB,none,none,none,none,some ah,none,some tA,some cB,some tB,none,none]) (.c (.x) (.x))) (.b (.r [none,none,none])))))) (.s (.r [none,none,some (.c (.agg [.int .i64,.str,.int .i64,.int .i64])),some tA,some tU]) (.s (.s (.r [none,some tS,some tB]) (.c (.r [none,some tU]) (.x))) (.s (.r [some (.c (.agg [.int .i64,.str,.int .i64,.int .i64])),some tU]) (.x))))))
def k5 (a0_s:Addr):T :=
 .op (bj ae) tA fun r1 =>
 .op (ai ak (.pointer (some ⟨a0_s.block,a0_s.off+1,none⟩))) tI fun r2 =>
 .join 0 [.b (.int .i64)] (
 .loop 1 [.b (.int .i64)] [.int .i64 r2] fun x3 =>
 .op (ai aC (.pointer (some a0_s))) ah fun r4 =>
 .ite (decide ((x3.1:Int) < (r4.2.1:Int))) (
 .op (ai aC (.pointer (some a0_s))) ah fun r5 =>
 .op (aR aC (.slice r5.1 r5.2.1 r5.2.2) (.int .i64 x3.1)) tA fun r6 =>
 .op (ai aP (.pointer (some r6))) cB fun r7 =>
 .op (aa fo #[.int .u8 r7]) tB fun r8 =>
 .ite r8 (
 .out 1 [.int .i64 (IntKind.i64.wrap (x3.1+1))]) (
 .op (ai aC (.pointer (some a0_s))) ah fun r9 =>
 .op (aR aC (.slice r9.1 r9.2.1 r9.2.2) (.int .i64 x3.1)) tA fun r10 =>
 .op (ai aP (.pointer (some r10))) cB fun r11 =>
 .op (aa eY #[.int .u8 r11]) tB fun r12 =>
 .ite r12 (
 .out 1 [.int .i64 (IntKind.i64.wrap (x3.1+1))]) (
 .out 0 [.int .i64 x3.1]))) (
 .out 0 [.int .i64 x3.1])) fun x13 =>
 .op (aa gC #[.pointer (some a0_s),.int .i64 1,.int .i64 x13.1]) (.c (.agg [.int .i64,.str,.int .i64,.int .i64])) fun r14 =>
 .op (bj ae) tA fun r15 =>
 .op (aW ae (.pointer (some r15)) (.agg #[.int .i64 r14.1,.string r14.2.1,.int .i64 r14.2.2.1,.int .i64 r14.2.2.2.1])) tU fun _ =>
 .op (ai aF (.pointer (some ⟨r15.block,r15.off+1,none⟩))) tS fun r17 =>
 .op (aa gW #[.string r17]) tB fun r18 =>
 .ite r18 (
 .op (aW ak (.pointer (some r15)) (.int .i64 2)) tU fun _ =>
 .op (ai ae (.pointer (some r15))) (.c (.agg [.int .i64,.str,.int .i64,.int .i64])) fun r20 =>
 .op (aW ae (.pointer (some r1)) (.agg #[.int .i64 r20.1,.string r20.2.1,.int .i64 r20.2.2.1,.int .i64 r20.2.2.2.1])) tU fun _ =>
 .ret #[.c (.pointer (some r1)) ae]) (
 .op (ai ae (.pointer (some r15))) (.c (.agg [.int .i64,.str,.int .i64,.int .i64])) fun r22 =>
 .op (aW ae (.pointer (some r1)) (.agg #[.int .i64 r22.1,.string r22.2.1,.int .i64 r22.2.2.1,.int .i64 r22.2.2.2.1])) tU fun _ =>
 .ret #[.c (.pointer (some r1)) ae])
theorem xr (a0_s:Addr):bh Tryz.prog Tryz.f108 u4 [.pointer (some a0_s)]=k5 a0_s:=by kernel_rfl
theorem yB {ε σ β:Type} {I:av ε σ} {t:Ty} {s:Sp ε σ β} {Rel:β→t.den→al→Fact} {Γ:List Fact} (a0_s:Addr) (h:Sim Tryz.prog I t Rel noLabel none (k5 a0_s) s [] Γ):MeetsO Tryz.prog I (aa kP #[.pointer (some a0_s)]) t s Rel Γ :=
 aj (args:=[.pointer (some a0_s)]) Tryz.func108 rfl rfl (Nat.le_of_ble_eq_true rfl) (by rw [xr]; exact h)
def tv:An :=
 .s (.r [some tA]) (.s (.r [none,none,none,some tI,none,none]) (.s (.j [(3,.b (.int .i64)),(4,.b (.int .i64))] (.b (.l [(3,.b (.int .i64)),(4,.b (.int .i64))] (.s (.s (.j [(25,.b .bool)] (.r [none,none,none,none,some ah,none,none,none,none,none,none,some ah,none,some tA,some cB,some tB,none])) (.c (.x) (.x))) (.s (.b (.r [none,none,none,none,none,some ah,none,some tA,some cB,none,none,none,none,none])) (.r [none,none,none])))))) (.s (.b (.s (.s (.r [none,none,none]) (.j [(41,.b .bool)] (.c (.x) (.s (.j [(41,.b .bool)] (.d (.q 0 none (.q 1 none (.q 2 none (.q 3 (some ah) (.q 4 none (.q 5 none (.q 6 none (.q 7 (some tI) (.q 8 (some tA) (.q 9 (some cB) (.q 10 none (.q 11 none (.q 12 none (.q 13 none (.q 14 none (.q 15 none (.q 16 (some tI) (.q 17 none (.q 18 none (.q 19 none (.q 20 none (.e)))))))))))))))))))))))) (.c (.x) (.r [none,none,none,none,some ah,none,none,none,none,none,none,some ah,none,some tA,some cB,some tB,none,none])))))) (.c (.s (.r [none,some tU]) (.x)) (.x)))) (.s (.r [none,none,some (.c (.agg [.int .i64,.str,.int .i64,.int .i64])),some tU]) (.x)))))
def jl (a0_a0:Addr):T :=
 .op (bj ae) tA fun r1 =>
 .op (ai ak (.pointer (some ⟨a0_a0.block,a0_a0.off+1,none⟩))) tI fun r2 =>
 .join 0 [.b (.int .i64),.b (.int .i64)] (
 .loop 1 [.b (.int .i64),.b (.int .i64)] [.int .i64 r2,.int .i64 0] fun x3 =>
 .join 2 [.b .bool] (
 .op (ai aC (.pointer (some a0_a0))) ah fun r4 =>
 .ite (decide ((x3.1:Int) < (r4.2.1:Int))) (
 .op (ai aC (.pointer (some a0_a0))) ah fun r5 =>
 .op (aR aC (.slice r5.1 r5.2.1 r5.2.2) (.int .i64 x3.1)) tA fun r6 =>
 .op (ai aP (.pointer (some r6))) cB fun r7 =>
 .op (aa eY #[.int .u8 r7]) tB fun r8 =>
 .out 2 [.bool r8]) (
 .out 2 [.bool false])) fun x9 =>
 .ite x9.1 (
 .op (ai aC (.pointer (some a0_a0))) ah fun r10 =>
 .op (aR aC (.slice r10.1 r10.2.1 r10.2.2) (.int .i64 x3.1)) tA fun r11 =>
 .op (ai aP (.pointer (some r11))) cB fun r12 =>
 .out 1 [.int .i64 (IntKind.i64.wrap (x3.1+1)),.int .i64 (if (9007199254740992:Int) < (IntKind.i64.wrap ((IntKind.i64.wrap (x3.2.1 * 10))+(IntKind.i64.wrap (IntKind.u8.wrap (r12 - 48))))) then 9007199254740992 else IntKind.i64.wrap ((IntKind.i64.wrap (x3.2.1 * 10))+(IntKind.i64.wrap (IntKind.u8.wrap (r12 - 48)))))]) (
 .out 0 [.int .i64 x3.1,.int .i64 x3.2.1])) fun x13 =>
 .join 0 [.b .bool] (
 .ite (decide ((x13.2.1:Int) > 9007199254740991)) (
 .out 0 [.bool true]) (
 .join 1 [.b .bool] (
 .draw <|
 .opq (ai aC (.pointer (some a0_a0))) ah fun r14 =>
 .opq (ai ak (.pointer (some ⟨a0_a0.block,a0_a0.off+1,none⟩))) tI fun r15 =>
 .opq (aR aC (.slice r14.1 r14.2.1 r14.2.2) (.int .i64 r15)) tA fun r16 =>
 .opq (ai aP (.pointer (some r16))) cB fun r17 =>
 .ite ((r17:Int)==48) (
 .opq (ai ak (.pointer (some ⟨a0_a0.block,a0_a0.off+1,none⟩))) tI fun r18 =>
 .out 1 [.bool (decide ((x13.1:Int) > (IntKind.i64.wrap (r18+1))))]) (
 .out 1 [.bool false])) fun x19 =>
 .ite x19.1 (
 .out 0 [.bool true]) (
 .op (ai aC (.pointer (some a0_a0))) ah fun r20 =>
 .ite (decide ((x13.1:Int) < (r20.2.1:Int))) (
 .op (ai aC (.pointer (some a0_a0))) ah fun r21 =>
 .op (aR aC (.slice r21.1 r21.2.1 r21.2.2) (.int .i64 x13.1)) tA fun r22 =>
 .op (ai aP (.pointer (some r22))) cB fun r23 =>
 .op (aa fo #[.int .u8 r23]) tB fun r24 =>
 .out 0 [.bool r24]) (
 .out 0 [.bool false])))) fun x25 =>
 .ite x25.1 (
 .op (aW ae (.pointer (some r1)) (.agg #[.int .i64 0,.string kE,.int .i64 0,.int .i64 0])) tU fun _ =>
 .ret #[.c (.pointer (some r1)) ae]) (
 .op (aa gC #[.pointer (some a0_a0),.int .i64 3,.int .i64 x13.1]) (.c (.agg [.int .i64,.str,.int .i64,.int .i64])) fun r27 =>
 .op (aW ae (.pointer (some r1)) (.agg #[.int .i64 r27.1,.string r27.2.1,.int .i64 r27.2.2.1,.int .i64 r27.2.2.2.1])) tU fun _ =>
 .ret #[.c (.pointer (some r1)) ae])
theorem uB (a0_a0:Addr):bh Tryz.prog Tryz.f110 tv [.pointer (some a0_a0)]=jl a0_a0:=by kernel_rfl
theorem ut {ε σ β:Type} {I:av ε σ} {t:Ty} {s:Sp ε σ β} {Rel:β→t.den→al→Fact} {Γ:List Fact} (a0_a0:Addr) (h:Sim Tryz.prog I t Rel noLabel none (jl a0_a0) s [] Γ):MeetsO Tryz.prog I (aa jr #[.pointer (some a0_a0)]) t s Rel Γ :=
 aj (args:=[.pointer (some a0_a0)]) Tryz.func110 rfl rfl (Nat.le_of_ble_eq_true rfl) (by rw [uB]; exact h)
def tl:An :=
 .s (.r [none]) (.b (.s (.x) (.s (.b (.l [] (.s (.s (.d (.q 0 none (.q 1 none (.q 2 none (.q 3 (some tI) (.q 4 none (.q 5 none (.q 6 none (.q 7 (some ah) (.q 8 none (.q 9 none (.e)))))))))))) (.c (.x) (.x))) (.b (.b (.s (.d (.q 0 none (.q 1 none (.q 2 none (.q 3 (some ah) (.q 4 none (.q 5 none (.q 6 none (.q 7 (some tI) (.q 8 (some tA) (.q 9 (some cB) (.l 10 (some tI) (.q 11 none (.q 12 none (.e))))))))))))))) (.c (.r [none,none,none,some tI,none,none,none,some tU]) (.s (.r [none,none,none,none,some tI,some tB,none]) (.c (.b (.l [] (.s (.s (.j [(63,.b .bool)] (.d (.q 0 none (.q 1 none (.q 2 none (.q 3 (some tI) (.q 4 none (.q 5 none (.q 6 none (.q 7 (some ah) (.q 8 none (.q 9 none (.q 10 none (.q 11 none (.q 12 none (.q 13 none (.q 14 (some ah) (.q 15 none (.q 16 none (.q 17 none (.q 18 (some tI) (.q 19 (some tA) (.q 20 (some cB) (.q 21 none (.q 22 none (.e)))))))))))))))))))))))))) (.c (.x) (.x))) (.b (.r [none,none,none,some tI,none,none,none,some tU]))))) (.s (.r [none,none,none,none,some tI,some tB,none]) (.c (.s (.d (.q 0 none (.q 1 none (.q 2 none (.q 3 (some ah) (.q 4 none (.q 5 none (.q 6 none (.q 7 (some tI) (.q 8 none (.q 9 (some ah) (.q 10 (some tS) (.l 11 (some tI) (.q 12 none (.e))))))))))))))) (.s (.s (.r [none,none]) (.c (.s (.r [none]) (.x)) (.x))) (.r [none,none,none,some tI,none,none,none,none,none,some tU]))) (.x)))))))))))) (.s (.r [none]) (.x)))))
def jn (a0_a0:Addr):T :=
 .loop 0 [] [] fun x1 =>
 .draw <|
 .opq (ai ak (.pointer (some ⟨a0_a0.block,a0_a0.off+1,none⟩))) tI fun r2 =>
 .opq (ai aC (.pointer (some a0_a0))) ah fun r3 =>
 .ite (decide ((r2:Int) < (r3.2.1:Int))) (
 .draw <|
 .opq (ai aC (.pointer (some a0_a0))) ah fun r4 =>
 .opq (ai ak (.pointer (some ⟨a0_a0.block,a0_a0.off+1,none⟩))) tI fun r5 =>
 .opq (aR aC (.slice r4.1 r4.2.1 r4.2.2) (.int .i64 r5)) tA fun r6 =>
 .opq (ai aP (.pointer (some r6))) cB fun r7 =>
 .opl (aa ko #[.string iv,.int .u8 r7]) tI fun r8 =>
 .ite (decide ((r8:Int)≥0)) (
 .op (ai ak (.pointer (some ⟨a0_a0.block,a0_a0.off+1,none⟩))) tI fun r9 =>
 .op (aW ak (.pointer (some ⟨a0_a0.block,a0_a0.off+1,none⟩)) (.int .i64 (IntKind.i64.wrap (r9+1)))) tU fun _ =>
 .out 0 []) (
 .op (ai ak (.pointer (some ⟨a0_a0.block,a0_a0.off+1,none⟩))) tI fun r11 =>
 .op (aa jc #[.pointer (some a0_a0),.int .i64 r11,.string pJ]) tB fun r12 =>
 .ite r12 (
 .loop 1 [] [] fun x13 =>
 .join 2 [.b .bool] (
 .draw <|
 .opq (ai ak (.pointer (some ⟨a0_a0.block,a0_a0.off+1,none⟩))) tI fun r14 =>
 .opq (ai aC (.pointer (some a0_a0))) ah fun r15 =>
 .ite (decide ((r14:Int) < (r15.2.1:Int))) (
 .opq (ai aC (.pointer (some a0_a0))) ah fun r16 =>
 .opq (ai ak (.pointer (some ⟨a0_a0.block,a0_a0.off+1,none⟩))) tI fun r17 =>
 .opq (aR aC (.slice r16.1 r16.2.1 r16.2.2) (.int .i64 r17)) tA fun r18 =>
 .opq (ai aP (.pointer (some r18))) cB fun r19 =>
 .out 2 [.bool ((r19:Int) != 10)]) (
 .out 2 [.bool false])) fun x20 =>
 .ite x20.1 (
 .op (ai ak (.pointer (some ⟨a0_a0.block,a0_a0.off+1,none⟩))) tI fun r21 =>
 .op (aW ak (.pointer (some ⟨a0_a0.block,a0_a0.off+1,none⟩)) (.int .i64 (IntKind.i64.wrap (r21+1)))) tU fun _ =>
 .out 1 []) (
 .out 0 [])) (
 .op (ai ak (.pointer (some ⟨a0_a0.block,a0_a0.off+1,none⟩))) tI fun r23 =>
 .op (aa jc #[.pointer (some a0_a0),.int .i64 r23,.string k_sl_star]) tB fun r24 =>
 .ite r24 (
 .draw <|
 .opq (ai aC (.pointer (some a0_a0))) ah fun r25 =>
 .opq (ai ak (.pointer (some ⟨a0_a0.block,a0_a0.off+1,none⟩))) tI fun r26 =>
 .opq (d8 aC (.slice r25.1 r25.2.1 r25.2.2) (some (.int .i64 (IntKind.i64.wrap (r26+2)))) none none) ah fun r27 =>
 .opq (nR aC aF (.slice r27.1 r27.2.1 r27.2.2)) tS fun r28 =>
 .opl (aa oe #[.string r28,.string ei]) tI fun r29 =>
 .ite (decide ((r29:Int) < 0)) (
 .ret #[.v (.bool false)]) (
 .op (ai ak (.pointer (some ⟨a0_a0.block,a0_a0.off+1,none⟩))) tI fun r30 =>
 .op (aW ak (.pointer (some ⟨a0_a0.block,a0_a0.off+1,none⟩)) (.int .i64 (IntKind.i64.wrap (r30+(IntKind.i64.wrap (r29+4)))))) tU fun _ =>
 .out 0 [])) (
 .ret #[.v (.bool true)])))) (
 .ret #[.v (.bool true)])
theorem tR (a0_a0:Addr):bh Tryz.prog Tryz.f106 tl [.pointer (some a0_a0)]=jn a0_a0:=by kernel_rfl
theorem tW {ε σ β:Type} {I:av ε σ} {t:Ty} {s:Sp ε σ β} {Rel:β→t.den→al→Fact} {Γ:List Fact} (a0_a0:Addr) (h:Sim Tryz.prog I t Rel noLabel none (jn a0_a0) s [] Γ):MeetsO Tryz.prog I (aa jt #[.pointer (some a0_a0)]) t s Rel Γ :=
 aj (args:=[.pointer (some a0_a0)]) Tryz.func106 rfl rfl (Nat.le_of_ble_eq_true rfl) (by rw [tR]; exact h)
def vt:An :=
 .s (.r [some tA]) (.s (.r [none,some tA,some tU]) (.s (.s (.r [some (.c (.agg [.str,.str,.str])),none]) (.j [] (.b (.l [(10,.b (.int .i64))] (.s (.r [none]) (.s (.c (.x) (.x)) (.s (.b (.s (.r [none,some tS,none,none]) (.s (.r [none,none,none]) (.s (.s (.d (.q 0 none (.q 1 none (.q 2 none (.q 3 (some ah) (.q 4 none (.q 5 none (.q 6 none (.q 7 none (.q 8 (some tI) (.q 9 none (.q 10 none (.q 11 none (.e)))))))))))))) (.c (.x) (.x))) (.s (.r [none,none,none,none,some tI,none,none,some (.c (.agg [.int .i64,.str,.int .i64,.int .i64])),some tA,some tU]) (.s (.s (.j [(47,.b .bool)] (.r [none,some tS,some tB,none,none,none,some tS,some tS,some tS,some tB,none,none])) (.c (.x) (.x))) (.s (.s (.r [none,some tS]) (.b (.s (.r [none,none]) (.c (.r [none,none,none,none,some ah,some ah,some ah,none,none,some tU]) (.s (.r [none,none]) (.c (.d (.q 0 none (.q 1 none (.q 2 none (.q 3 none (.q 4 (some ah) (.q 5 none (.q 6 none (.q 7 none (.q 8 (some ah) (.q 9 none (.q 10 none (.q 11 none (.q 12 (some ah) (.q 13 none (.q 14 none (.l 15 (some tU) (.e)))))))))))))))))) (.x))))))) (.s (.r [some (.c (.agg [.int .i64,.str,.int .i64,.int .i64])),some tU]) (.x))))))))) (.r [none,none])))))))) (.s (.r [none,some tU]) (.x))))
def kJ (a0_a0:Addr):T :=
 .op (bj ae) tA fun r1 =>
 .op (bj eK) tA fun r2 =>
 .op (aW eK (.pointer (some r2)) (.agg #[.string pL,.string pG,.string pj])) tU fun _ =>
 .op (ai eK (.pointer (some r2))) (.c (.agg [.str,.str,.str])) fun r4 =>
 .join 0 [] (
 .loop 1 [.b (.int .i64)] [.int .i64 0] fun x5 =>
 .ite (decide ((x5.1:Int) < 3)) (
 .op (qk eK (.agg #[.string r4.1,.string r4.2.1,.string r4.2.2.1]) (.int .i64 x5.1)) tS fun r6 =>
 .draw <|
 .opq (ai aC (.pointer (some a0_a0))) ah fun r7 =>
 .opq (ai ak (.pointer (some ⟨a0_a0.block,a0_a0.off+1,none⟩))) tI fun r8 =>
 .ite (decide ((IntKind.i64.wrap ((r7.2.1:Int) - r8):Int) < (IntKind.i64.wrap (3 - x5.1)))) (
 .out 1 [.int .i64 (IntKind.i64.wrap (x5.1+1))]) (
 .op (ai ak (.pointer (some ⟨a0_a0.block,a0_a0.off+1,none⟩))) tI fun r9 =>
 .op (aa gC #[.pointer (some a0_a0),.int .i64 9,.int .i64 (IntKind.i64.wrap (r9+(IntKind.i64.wrap (3 - x5.1))))]) (.c (.agg [.int .i64,.str,.int .i64,.int .i64])) fun r10 =>
 .op (bj ae) tA fun r11 =>
 .op (aW ae (.pointer (some r11)) (.agg #[.int .i64 r10.1,.string r10.2.1,.int .i64 r10.2.2.1,.int .i64 r10.2.2.2.1])) tU fun _ =>
 .join 2 [.b .bool] (
 .op (ai aF (.pointer (some ⟨r11.block,r11.off+1,none⟩))) tS fun r13 =>
 .op (aa jC #[.string r13,.string iO]) tB fun r14 =>
 .ite r14 (
 .out 2 [.bool true]) (
 .op (ai aF (.pointer (some ⟨r11.block,r11.off+1,none⟩))) tS fun r15 =>
 .op (bT .add aF (.string k_sp) (.string r15)) tS fun r16 =>
 .op (bT .add aF (.string r16) (.string k_sp)) tS fun r17 =>
 .op (aa ef #[.string r6,.string r17]) tB fun r18 =>
 .out 2 [.bool (!r18)])) fun x19 =>
 .ite x19.1 (
 .out 1 [.int .i64 (IntKind.i64.wrap (x5.1+1))]) (
 .op (ai aF (.pointer (some ⟨r11.block,r11.off+1,none⟩))) tS fun r20 =>
 .ite (r20.toList==k_lc.toList) (
 .op (ai bM (.pointer (some ⟨a0_a0.block,a0_a0.off+2,none⟩))) ah fun r21 =>
 .op (ar bM 1 #[(0,.bool false)]) ah fun r22 =>
 .op (dg #[bM,bM] bM #[.slice r21.1 r21.2.1 r21.2.2,.slice r22.1 r22.2.1 r22.2.2]) ah fun r23 =>
 .op (aW bM (.pointer (some ⟨a0_a0.block,a0_a0.off+2,none⟩)) (.slice r23.1 r23.2.1 r23.2.2)) tU fun _ =>
 .op (ai ae (.pointer (some r11))) (.c (.agg [.int .i64,.str,.int .i64,.int .i64])) fun r25 =>
 .op (aW ae (.pointer (some r1)) (.agg #[.int .i64 r25.1,.string r25.2.1,.int .i64 r25.2.2.1,.int .i64 r25.2.2.2.1])) tU fun _ =>
 .ret #[.c (.pointer (some r1)) ae]) (
 .ite (r20.toList==k_rc.toList) (
 .draw <|
 .opq (ai bM (.pointer (some ⟨a0_a0.block,a0_a0.off+2,none⟩))) ah fun r27 =>
 .opq (ai bM (.pointer (some ⟨a0_a0.block,a0_a0.off+2,none⟩))) ah fun r28 =>
 .opq (d8 bM (.slice r27.1 r27.2.1 r27.2.2) none (some (.int .i64 (if (IntKind.i64.wrap ((r28.2.1:Int) - 1):Int) > 0 then IntKind.i64.wrap ((r28.2.1:Int) - 1) else 0))) none) ah fun r29 =>
 .op (aW bM (.pointer (some ⟨a0_a0.block,a0_a0.off+2,none⟩)) (.slice r29.1 r29.2.1 r29.2.2)) tU fun _ =>
 .op (ai ae (.pointer (some r11))) (.c (.agg [.int .i64,.str,.int .i64,.int .i64])) fun r31 =>
 .op (aW ae (.pointer (some r1)) (.agg #[.int .i64 r31.1,.string r31.2.1,.int .i64 r31.2.2.1,.int .i64 r31.2.2.2.1])) tU fun _ =>
 .ret #[.c (.pointer (some r1)) ae]) (
 .op (ai ae (.pointer (some r11))) (.c (.agg [.int .i64,.str,.int .i64,.int .i64])) fun r33 =>
 .op (aW ae (.pointer (some r1)) (.agg #[.int .i64 r33.1,.string r33.2.1,.int .i64 r33.2.2.1,.int .i64 r33.2.2.2.1])) tU fun _ =>
 .ret #[.c (.pointer (some r1)) ae]))))) (
 .out 0 [])) fun x35 =>
 .op (aW ae (.pointer (some r1)) (.agg #[.int .i64 0,.string kE,.int .i64 0,.int .i64 0])) tU fun _ =>
 .ret #[.c (.pointer (some r1)) ae]
theorem xC (a0_a0:Addr):bh Tryz.prog Tryz.f113 vt [.pointer (some a0_a0)]=kJ a0_a0:=by kernel_rfl
theorem xQ {ε σ β:Type} {I:av ε σ} {t:Ty} {s:Sp ε σ β} {Rel:β→t.den→al→Fact} {Γ:List Fact} (a0_a0:Addr) (h:Sim Tryz.prog I t Rel noLabel none (kJ a0_a0) s [] Γ):MeetsO Tryz.prog I (aa kM #[.pointer (some a0_a0)]) t s Rel Γ :=
 aj (args:=[.pointer (some a0_a0)]) Tryz.func113 rfl rfl (Nat.le_of_ble_eq_true rfl) (by rw [xC]; exact h)
end
end Go.Proofs.YtjlgcpgjdgeejaaGreatDoor
end

section
namespace Go.Proofs.YtjlgcpgjdgeejaaGreatDoor
open Go
set_option linter.unusedSimpArgs false
set_option linter.unusedVariables false
set_option linter.constructorNameAsVariable false
set_option maxRecDepth 100000
def dU (sl:aI) (p:Nat) (osl:aI):List Value:=[.slice sl.1 sl.2.1 sl.2.2,.int .i64 p,.slice osl.1 osl.2.1 osl.2.2]
def SI (b:ByteArray) (sl:aI) (pb:Nat):av Empty dm where
 inv s H:=Fact.ex fun osl:aI=>Fact.ex fun K:al=>Fact.prop (H=(pb,aq bX (dU sl s.pos osl))::K∧Buf bq 1 osl (s.opn.map Value.bool) K∧s.pos≤b.size)
 err _ _:=False
section
variable {b:ByteArray} {sl:aI} {pb:Nat} {β:Type} {t:Ty} {Rel:β→t.den→al→Fact} {Δ:Labels Empty dm β} {md:cK} {L Lq:al} {Γ Γq:List Fact} {st:dm} {run:Option (Res Empty dm β)}
theorem HE {m:T} (h:st.pos≤b.size→au PG (SI b sl pb) t Rel Δ md st m run L Γ):au PG (SI b sl pb) t Rel Δ md st m run L Γ :=
 Kk (fun H F ⟨_,_,_,_,h⟩=>h) h
theorem tG {k:aI→T} (hk:au PG (SI b sl pb) t Rel Δ none st (k sl) run L Γ):au PG (SI b sl pb) t Rel Δ md st (.op (ai aC (.pointer (some ⟨pb,0,none⟩))) ah k) run L Γ :=
 Jd (b1:=.slice) sl (by kernel_rfl) rfl (fun H F ⟨osl,K,hH,_⟩=>⟨dU sl st.pos osl,bX,hH▸List.mem_cons_self ..,rfl⟩) hk
theorem oU {k:aI→T} (hk:au PG (SI b sl pb) t Rel Δ (some (Γq,Lq)) st (k sl) run L Γ):au PG (SI b sl pb) t Rel Δ (some (Γq,Lq)) st (.opq (ai aC (.pointer (some ⟨pb,0,none⟩))) ah k) run L Γ :=
 HI (b1:=.slice) sl (by kernel_rfl) rfl (fun H F ⟨osl,K,hH,_⟩=>⟨dU sl st.pos osl,bX,hH▸List.mem_cons_self ..,rfl⟩) hk
theorem lp {k:Int→T} (hk:au PG (SI b sl pb) t Rel Δ none st (k st.pos) run L Γ):au PG (SI b sl pb) t Rel Δ md st (.op (ai ak (.pointer (some ⟨pb,0+1,none⟩))) tI k) run L Γ :=
 Jd (b1:=.int .i64) (st.pos:Int) (by kernel_rfl) rfl (fun H F ⟨osl,K,hH,_⟩=>⟨dU sl st.pos osl,bX,hH▸List.mem_cons_self ..,rfl⟩) hk
theorem fC {k:Int→T} (hk:au PG (SI b sl pb) t Rel Δ (some (Γq,Lq)) st (k st.pos) run L Γ):au PG (SI b sl pb) t Rel Δ (some (Γq,Lq)) st (.opq (ai ak (.pointer (some ⟨pb,0+1,none⟩))) tI k) run L Γ :=
 HI (b1:=.int .i64) (st.pos:Int) (by kernel_rfl) rfl (fun H F ⟨osl,K,hH,_⟩=>⟨dU sl st.pos osl,bX,hH▸List.mem_cons_self ..,rfl⟩) hk
theorem A9 {k:T} {v:Int} (n:Nat) (hv:v=n) (hn:n≤b.size) (hk:au PG (SI b sl pb) t Rel Δ none { st with pos:=n } k run L Γ) :
  au PG (SI b sl pb) t Rel Δ md st (.op (aW ak (.pointer (some ⟨pb,0+1,none⟩)) (.int .i64 v)) tU fun _=>k) run L Γ :=
 Lt (c:=false) { st with pos:=n } (by kernel_rfl) rfl (by simp [Value.cells,Value.oneCell']) (fun H F ⟨osl,K,hH,hB,hp⟩=>⟨[],_,_,K,hH,Nat.le_of_ble_eq_true rfl,osl,K,by subst hv; rfl,hB,hn⟩) hk
theorem IZ {k:T} {c:Bool} (hlen:st.opn.length < 1048576) (hk:au PG (SI b sl pb) t Rel Δ none { st with opn:=st.opn++[c] } k run L Γ) :
  au PG (SI b sl pb) t Rel Δ md st (.op (ai bM (.pointer (some ⟨pb,0+2,none⟩))) ah fun r21=>.op (ar bM 1 #[(0,.bool c)]) ah fun r22=>.op (dg #[bM,bM] bM #[.slice r21.1 r21.2.1 r21.2.2,.slice r22.1 r22.2.1 r22.2.2]) ah fun r23 =>
   .op (aW bM (.pointer (some ⟨pb,0+2,none⟩)) (.slice r23.1 r23.2.1 r23.2.2)) tU fun _=>k) run L Γ:=by
 refine f0 fun H=>lm fun osl=>lm fun K=>kp fun ⟨hH,hB,hp⟩=>?_
 subst hH
 refine a8 (cN (b1:=.slice) osl (Rd.own (List.mem_cons_self ..)) (by kernel_rfl) rfl rfl) ?_
 rintro _ _ _ ⟨rfl,rfl,rfl⟩
 refine a8 (kr (e:=bq) (size:=1) (z:=.bool false) [.bool c] (by kernel_rfl) (by kernel_rfl) (by decide) (by decide) (by kernel_rfl)) ?_
 rintro _ _ _ ⟨bn,rfl,rfl,rfl⟩
 have hl:=hB.len
 simp only [List.length_map] at hl
 refine Ep (L':=K++((pb,aq bX (dU sl st.pos osl))::L)) List.perm_middle ?_
 refine a8 (eM (L0:=(pb,aq bX (dU sl st.pos osl))::L) (K:=K) (size:=1) (bytes:=1) (e:=bq) (m:=1) (news:=[.bool c]) (by kernel_rfl) rfl hB (Rd.at (List.mem_cons_self ..)) rfl rfl rfl (by decide) (by simp [Value.oneCell']) (by omega) (by omega)) ?_
 rintro x _ _ ⟨K',rfl,rfl,hx,hb'⟩
 refine a8 (a6 (L1:=K') (L2:=L) (l:=dU sl st.pos osl) (T:=bM) (T0:=bX) (c:=false) rfl (by kernel_rfl) rfl (Nat.le_of_ble_eq_true rfl) (by simp [Value.cells,Value.oneCell'])) ?_
 rintro _ _ _ ⟨rfl,rfl⟩
 intro r w F res S hs hF hsp hq
 refine hk ((pb,aq bX (dU sl st.pos x))::K') r w F res S hs (Holds.cons ⟨x,K',rfl,by simpa using hb',hp⟩ fun A hA=>hF A (List.mem_cons_of_mem _ hA)) ?_ trivial
 exact hsp.perm (List.perm_middle (a:=(pb,aq bX (dU sl st.pos x))) (l₁:=K') (l₂:=L)).symm
theorem K9 {k:T} {f:Int→Int} (hf:∀ n:Nat,n≤9223372036854775807→f n=((n - 1:Nat):Int)) (hk:au PG (SI b sl pb) t Rel Δ none { st with opn:=st.opn.take (st.opn.length - 1) } k run L Γ) :
  au PG (SI b sl pb) t Rel Δ md st (.draw<|.opq (ai bM (.pointer (some ⟨pb,0+2,none⟩))) ah fun r27=>.opq (ai bM (.pointer (some ⟨pb,0+2,none⟩))) ah fun r28 =>
   .opq (d8 bM (.slice r27.1 r27.2.1 r27.2.2) none (some (.int .i64 (f (r28.2.1:Int)))) none) ah fun r29 =>
   .op (aW bM (.pointer (some ⟨pb,0+2,none⟩)) (.slice r29.1 r29.2.1 r29.2.2)) tU fun _=>k) run L Γ:=by
 refine f0 fun H=>lm fun osl=>lm fun K=>kp fun ⟨hH,hB,hp⟩=>?_
 subst hH
 have hl:=hB.len
 simp only [List.length_map,Nat.mul_one] at hl
 have hcap:osl.2.1≤osl.2.2∧osl.2.2≤maxLen∧∀ a,osl.1=some a→a.spot=none:=by
  rcases hB with ⟨_,rfl,_⟩ | ⟨g,cells,_,h2,_,h4,h5,_⟩
  ·exact ⟨Nat.le_refl _,by decide,fun a h=>by cases h⟩
  ·exact ⟨h4,h5,fun a h=>by rw [h2] at h; cases h; rfl⟩
 have hf':=hf osl.2.1 (by have:=hcap.1; have:=hcap.2.1; unfold maxLen at this; omega)
 refine iy [(pb,aq bX (dU sl st.pos osl))] (fun p hp=>by simp at hp; simp [hp]) ?_
 refine cC (t1:=ah) osl (bR (QRd.own (List.mem_cons_self ..)) (by kernel_rfl) rfl rfl) ?_
 refine cC (t1:=ah) osl (bR (QRd.own (List.mem_cons_self ..)) (by kernel_rfl) rfl rfl) ?_
 refine cC (t1:=ah) (osl.1,osl.2.1 - 1,osl.2.2) (lH fun w=>?_) ?_
 ·show (d8 bM (.slice osl.1 osl.2.1 osl.2.2) none (some (.int .i64 (f (osl.2.1:Int)))) none).run PG w=_
  rw [hf']
  rw [uH (k:=.i64) (by kernel_rfl) ⟨_,rfl⟩ hcap.2.2 (by omega) (by have:=hcap.1; omega)]
  simp [Ty.enc,C.enc,B.enc]
 refine a8 (a6 (L1:=[]) (L2:=K++L) (l:=dU sl st.pos osl) (T:=bM) (T0:=bX) (c:=false) rfl (by kernel_rfl) rfl (Nat.le_of_ble_eq_true rfl) (by simp [Value.cells,Value.oneCell'])) ?_
 rintro _ _ _ ⟨rfl,rfl⟩
 intro r w F res S hs hF hsp hq
 refine hk ((pb,aq bX (dU sl st.pos (osl.1,osl.2.1 - 1,osl.2.2)))::K) r w F res S hs (Holds.cons ⟨_,K,rfl,?_,hp⟩ fun A hA=>hF A hA) hsp trivial
 have:=hB.take (m:=osl.2.1 - 1) (by omega)
 simpa [List.map_take,hl] using this
end
theorem qG {ε:Type} (c:Int):Meets PG (I0:av ε Unit) (aa fo #[.int .u8 c]) tB (Pure.pure (dp c)) aJ []:=by
 refine AK c (bc fun st=>?_)
 unfold lT
 repeat' (first | refine aD (fun h=>?_) (fun h=>?_) | refine eF (t:=tB) _ rfl ?_)
 all_goals (show _=_; simp_all [dp,Pure.pure,Sp.pure]<;>omega)
theorem pP {ε:Type} (c:Int):Meets PG (I0:av ε Unit) (aa eY #[.int .u8 c]) tB (Pure.pure (cz c)) aJ []:=by
 refine Bg c (bc fun st=>?_)
 unfold nm
 repeat' (first | refine aD (fun h=>?_) (fun h=>?_) | refine eF (t:=tB) _ rfl ?_)
 all_goals (show _=_; simp_all [cz,Pure.pure,Sp.pure]<;>omega)
theorem vF {ε:Type} (s:ByteArray) (hs:s.size≤1048576):Meets PG (I0:av ε Unit) (aa gW #[.string s]) tB (Pure.pure (qO s)) aJ [MxF]:=by
 refine vO s (bc fun st=>?_)
 unfold j7
 refine cd (t1:=tS) (k_sp++s) (PVal.pure fun w=>ep _ _ (by have:k_sp.size=1:=rfl; omega)) ?_
 refine cd (t1:=tS) (k_sp++s++k_sp) (PVal.pure fun w=>ep _ _ (by have:k_sp.size=1:=rfl; simp; omega)) ?_
 refine bW (mY _ _ (by decide)) (fun A hA=>hA) ?_
 exact eF (t:=tB) _ rfl rfl
end Go.Proofs.YtjlgcpgjdgeejaaGreatDoor
end

section
namespace Go.Proofs.YtjlgcpgjdgeejaaGreatDoor
open Go
set_option linter.unusedSimpArgs false
set_option linter.unusedVariables false
set_option linter.constructorNameAsVariable false
set_option maxRecDepth 100000
section
variable {b:ByteArray} {sl:aI} {pb:Nat}
theorem jU {ε σ β:Type} {I:av ε σ} {t:Ty} {Rel:β→t.den→al→Fact} {Δ:Labels ε σ β} {md:cK} {L:al} {Γ:List Fact} {st:σ} {run:Option (Res ε σ β)} {m:T} (hb:ByF sl b∈Γ) (h:sl.2.1=b.size→au PG I t Rel Δ md st m run L Γ):au PG I t Rel Δ md st m run L Γ :=
 dd (fun F hF=>ByF.len (hF _ hb)) h
def Be (b:ByteArray) (k:Nat) (x:ByteArray):Sp Empty dm Bool:=fun st=>some (.ok (oI b k x) st)
theorem Id (hb:b.size≤65536) (k:Nat) (hk:k≤131072) (x:ByteArray) (hx:0 < x.size∧x.size≤1000):Meets PG (SI b sl pb) (aa jc #[.pointer (some ⟨pb,0,none⟩),.int .i64 k,.string x]) tB (Be b k x) aJ [ByF sl b]:=by
 refine Am ⟨pb,0,none⟩ (k:Int) x (bc fun st=>?_)
 unfold mL
 refine tG (jU (by repeat (first | exact mz | apply ms)) fun hl=>?_)
 rw [hl,aS (by omega) (by omega)]
 refine aD (fun h=>?_) (fun h=>?_)
 ·have h':k+x.size≤b.size:=by have:=of_decide_eq_true h; omega
  refine tG ?_
  rw [aS (by omega) (by omega)]
  refine cd (t1:=ah) (gj sl k (k+x.size)) (Ch (by repeat (first | exact mz | apply ms)) k (k+x.size) rfl (by simp) (by omega) h') ?_
  refine cd (t1:=tS) _ (BB (by repeat (first | exact mz | apply ms)) k (k+x.size) (by omega) h' (by omega)) ?_
  exact eF (t:=tB) _ rfl (by simp [Be,oI,h'])
 ·have h':¬ k+x.size≤b.size:=by have:=of_decide_eq_false h; omega
  exact eF (t:=tB) _ rfl (by simp [Be,oI,h'])
def rG (b:ByteArray) (kind:Int) (j:Nat):Sp Empty dm Tok:=fun st=>if st.pos < j∧j≤b.size then some (.ok (dL b kind st.pos j) st) else none
theorem Er (hb:b.size≤65536) (kind:Int) (j:Nat):Meets PG (SI b sl pb) (aa gC #[.pointer (some ⟨pb,0,none⟩),.int .i64 kind,.int .i64 j]) fb (rG b kind j) aJ [ByF sl b]:=by
 refine zA ⟨pb,0,none⟩ kind (j:Int) (bc fun st=>?_)
 unfold rG
 by_cases hj:st.pos < j∧j≤b.size
 case neg=>rw [if_neg hj]; exact cq rfl
 rw [if_pos hj]
 unfold mA
 refine bY (bF (z:=[.int .i64 0,.string kE,.int .i64 0,.int .i64 0]) (by kernel_rfl)) ?_
 rintro _ _ _ ⟨b1,rfl,rfl,rfl⟩
 refine dv [] (fun _ h=>nomatch h) (oU (fC ?_))
 refine gS (t1:=ah) (gj sl st.pos j) (Ch (b:=b) (by repeat (first | exact mz | apply ms)) st.pos j rfl rfl (by omega) hj.2) ?_
 refine gS (t1:=tS) (b.extract st.pos j) (BB (by repeat (first | exact mz | apply ms)) st.pos j (by omega) hj.2 (by omega)) (fC ?_)
 refine bY (a6 (L1:=[]) (L2:=[]) (l:=[.int .i64 0,.string kE,.int .i64 0,.int .i64 0]) (T:=ae) (T0:=ae) (c:=true) rfl (by kernel_rfl) rfl (Nat.le_of_ble_eq_true rfl) (by simp [Value.cells,Value.oneCell'])) ?_
 rintro _ _ _ ⟨rfl,rfl⟩
 refine cY (t:=fb) (dL b kind st.pos j) (dL b kind st.pos j) rfl (fun r w F H hF hsp=>?_) fun F hF=>rfl
 exact eN (a:=⟨b1,0,none⟩) (T0:=ae) (l:=[.int .i64 kind,.string (b.extract st.pos j),.int .i64 st.pos,.int .i64 j]) (vs:=[.int .i64 kind,.string (b.extract st.pos j),.int .i64 st.pos,.int .i64 j]) (by kernel_rfl) (hsp.own _ _ (List.mem_append_right _ (List.mem_cons_self ..))) rfl rfl
theorem lx {ε σ:Type} {I:av ε σ} {Δ:Labels ε σ Tok} {md:cK} {L L1 L2:al} {Γ:List Fact} {st:σ} {run:Option (Res ε σ Tok)} {b1:Nat} {l:List Value} (x:Tok) (hL:L=L1++(b1,aq ae l)::L2) (hl:l.length=4) (hrun:run=some (.ok x st)) :
  au PG I fb (pl aJ) Δ md st (.op (aW ae (.pointer (some ⟨b1,0,none⟩)) (.agg #[.int .i64 x.1,.string x.2.1,.int .i64 x.2.2.1,.int .i64 x.2.2.2.1])) tU fun _=>.ret #[.c (.pointer (some ⟨b1,0,none⟩)) ae]) run L Γ:=by
 refine bY (a6 (L1:=L1) (L2:=L2) (l:=l) (T:=ae) (T0:=ae) (c:=true) hL (by kernel_rfl) rfl (by simp [Value.cells,hl]) (by simp [Value.cells,Value.oneCell'])) ?_
 rintro _ _ _ ⟨rfl,rfl⟩
 have hs:bB l 0 (Value.agg #[.int .i64 x.1,.string x.2.1,.int .i64 x.2.2.1,.int .i64 x.2.2.2.1]).cells.toList=aO x:=by
  rw [qg (by simp [Value.cells,hl])]; rfl
 refine cY (t:=fb) x x hrun (fun r w F H hF hsp=>?_) fun F hF=>rfl
 refine eN (a:=⟨b1,0,none⟩) (T0:=ae) (l:=aO x) (vs:=aO x) (by kernel_rfl) (hsp.own _ _ (List.mem_append_right _ (List.mem_append_right _ ?_))) rfl rfl
 show _∈(b1,aq ae (bB l 0 (Value.agg #[.int .i64 x.1,.string x.2.1,.int .i64 x.2.2.1,.int .i64 x.2.2.2.1]).cells.toList))::L2
 rw [hs]; exact List.mem_cons_self ..
theorem si {ε σ β:Type} {I:av ε σ} {t:Ty} {Rel:β→t.den→al→Fact} {Δ:Labels ε σ β} {md:cK} {L:al} {Γ:List Fact} {st:σ} {run:Option (Res ε σ β)} {k:Addr→T} (x:Tok)
  (hk:∀ b1,au PG I t Rel Δ none st (k ⟨b1,0,none⟩) run ((b1,aq ae (aO x))::L) Γ) :
  au PG I t Rel Δ md st (.op (bj ae) tA fun r=>.op (aW ae (.pointer (some r)) (.agg #[.int .i64 x.1,.string x.2.1,.int .i64 x.2.2.1,.int .i64 x.2.2.2.1])) tU fun _=>k r) run L Γ:=by
 refine bY (bF (z:=[.int .i64 0,.string kE,.int .i64 0,.int .i64 0]) (by kernel_rfl)) ?_
 rintro _ _ _ ⟨b1,rfl,rfl,rfl⟩
 refine bY (a6 (L1:=[]) (L2:=L) (l:=[.int .i64 0,.string kE,.int .i64 0,.int .i64 0]) (T:=ae) (T0:=ae) (c:=true) rfl (by kernel_rfl) rfl (Nat.le_of_ble_eq_true rfl) (by simp [Value.cells,Value.oneCell'])) ?_
 rintro _ _ _ ⟨rfl,rfl⟩
 exact hk b1
theorem sG {ε σ β:Type} {I:av ε σ} {t:Ty} {Rel:β→t.den→al→Fact} {Δ:Labels ε σ β} {md:cK} {L:al} {Γ:List Fact} {st:σ} {run:Option (Res ε σ β)} {k:Addr→T}
  (hk:∀ b1,au PG I t Rel Δ none st (k ⟨b1,0,none⟩) run ((b1,aq ae (aO cf))::L) Γ):au PG I t Rel Δ md st (.op (bj ae) tA k) run L Γ:=by
 refine bY (bF (z:=[.int .i64 0,.string kE,.int .i64 0,.int .i64 0]) (by kernel_rfl)) ?_
 rintro _ _ _ ⟨b1,rfl,rfl,rfl⟩
 exact hk b1
theorem eL {ε σ β:Type} {P:Program} {I:av ε σ} {t:Ty} {Rel:β→t.den→al→Fact} {Δ:Labels ε σ β} {md:cK} {L:al} {Γ:List Fact} {st:σ} {run:Option (Res ε σ β)} {T1 T0:TypeId} {a:Addr} {b1:B} {l:List Value} {k:b1.den→T} (x:b1.den) (hr:(a.block,aq T0 l)∈L) (hs:dc P T1=some true) (ha:a.spot=none) (hv:l[a.off]? = some (b1.enc x))
  (hk:au P I t Rel Δ none st (k x) run L Γ):au P I t Rel Δ md st (.op (ai T1 (.pointer (some a))) (.c (.b b1)) k) run L Γ:=by
 refine bY (cN x (Rd.own hr) hs ha hv) ?_
 rintro _ _ _ ⟨rfl,rfl,rfl⟩
 exact hk
theorem m0 {ε σ β:Type} {I:av ε σ} {t:Ty} {Rel:β→t.den→al→Fact} {Δ:Labels ε σ β} {md:cK} {L:al} {Γ:List Fact} {st:σ} {run:Option (Res ε σ β)} {b1:Nat} {k:Tok→T} (x:Tok) (hr:(b1,aq ae (aO x))∈L)
  (hk:au PG I t Rel Δ none st (k x) run L Γ):au PG I t Rel Δ md st (.op (ai ae (.pointer (some ⟨b1,0,none⟩))) (.c (.agg d3)) k) run L Γ:=by
 refine bY (ft x (Rd.own hr) (by kernel_rfl) rfl rfl) ?_
 rintro _ _ _ ⟨rfl,rfl,rfl⟩
 exact hk
theorem cn {ε σ β:Type} {Δ:Labels ε σ β} {l:Nat} {x:Label ε σ β}:(Δ.set l x) l=x:=by simp [Labels.set]
theorem CL {ε σ β:Type} {Δ:Labels ε σ β} {l l':Nat} {x y:Label ε σ β} (h:l≠l') (hx:Δ l=x):(Δ.set l' y) l=x:=by simp [Labels.set,h,hx]
def u9 (b:ByteArray):Sp Empty dm Tok:=fun st=>(sq b st.pos).map fun t=>.ok t st
def gV (b:ByteArray) (x:Int):Sp Empty dm Tok:=fun st=>if 0≤x∧(st.pos:Int) < x∧x≤b.size then some (.ok (dL b (if qO (b.extract st.pos x.toNat) then 2 else 1) st.pos x.toNat) st) else none
def iI (b:ByteArray) (n:Nat) (x:Int):Sp Empty dm Tok:=fun st=>if 0≤x then (match iu b n x.toNat with
 | none=>none
 | some j=>gV b (j:Int) st) else none
theorem yH {j:Nat} {st:dm} (h:st.pos < j∧j≤b.size):gV b (j:Int) st=some (.ok (dL b (if qO (b.extract st.pos j) then 2 else 1) st.pos j) st):=by
 simp only [gV,Int.toNat_natCast]
 rw [if_pos (show (0:Int)≤(j:Int)∧(st.pos:Int) < (j:Int)∧(j:Int)≤(b.size:Int) by omega)]
theorem FS {j:Nat} {st:dm} (h:¬ (st.pos < j∧j≤b.size)):gV b (j:Int) st=none:=by
 simp only [gV,Int.toNat_natCast]
 rw [if_neg (show ¬ ((0:Int)≤(j:Int)∧(st.pos:Int) < (j:Int)∧(j:Int)≤(b.size:Int)) by omega)]
theorem JH (hb:b.size≤65536):Meets PG (SI b sl pb) (aa kP #[.pointer (some ⟨pb,0,none⟩)]) fb (u9 b) aJ [ByF sl b,MxF]:=by
 refine yB ⟨pb,0,none⟩ (bc fun st=>?_)
 unfold k5
 refine sG fun b1=>lp ?_
 refine g0 (fun x=>gV b x.1) (pU (fun n x=>iI b n x.1) (b.size+1) ((st.pos:Int),()) rfl ?_ (fun y st=>?_) fun n y st=>?_) fun y st=>?_
 ·show u9 b st=iI b (b.size+1) (st.pos:Int) st
  simp only [iI,u9,sq,Int.toNat_natCast]
  rw [if_pos (by omega)]
  cases iu b (b.size+1) st.pos with
  | none=>rfl
  | some j =>
   by_cases h:st.pos < j∧j≤b.size
   ·simp only [yH h]; rw [if_pos h]; rfl
   ·simp only [FS h]; rw [if_neg h]; rfl
 ·simp [iI,iu]
 ·obtain ⟨y,⟨⟩⟩:=y
  by_cases h0:0≤y
  case neg=>exact cq (by show iI b (n+1) y st=none; simp only [iI]; rw [if_neg h0])
  obtain ⟨j,rfl⟩:=Int.eq_ofNat_of_zero_le h0
  have hw:iI b (n+1) (j:Int) st=(match (if j < b.size then (if dp (a7 b j)||cz (a7 b j) then iu b n (j+1) else some j) else some j) with
   | none=>none
   | some j=>gV b (j:Int) st):=by simp only [iI,Int.toNat_natCast,if_pos h0,iu]
  refine tG (jU (by repeat (first | exact mz | apply ms)) fun hl=>?_)
  have next:∀ {Δ:Labels Empty dm Tok},(if dp (a7 b j)||cz (a7 b j) then iu b n (j+1) else some j)=iu b n (j+1)→j < b.size→iI b (n+1) (j:Int) st=iI b n (IntKind.i64.wrap ((j:Int)+1)) st:=fun {_} h1 h2=>by
   rw [hw,if_pos h2,h1,aS (by omega) (by omega)]
   simp only [iI]
   rw [if_pos (by omega),show ((j:Int)+1).toNat=j+1 by omega]
  refine aD (fun h=>?_) (fun h=>?_)
  ·have hj:j < b.size:=by have:=of_decide_eq_true h; rw [hl] at this; exact Int.ofNat_lt.1 this
   refine tG (nE j (by repeat (first | exact mz | apply ms)) rfl hj ?_)
   refine bW (qG _) (fun _ h=>nomatch h) (aD (fun h1=>?_) (fun h1=>?_))
   ·exact gw (IntKind.i64.wrap ((j:Int)+1),()) cn rfl (next (Δ:=noLabel) (by rw [h1]; rfl) hj)
   ·refine tG (nE j (by repeat (first | exact mz | apply ms)) rfl hj ?_)
    refine bW (pP _) (fun _ h=>nomatch h) (aD (fun h2=>?_) (fun h2=>?_))
    ·exact gw (IntKind.i64.wrap ((j:Int)+1),()) cn rfl (next (Δ:=noLabel) (by rw [h2,Bool.or_true]; rfl) hj)
    ·exact dh (s':=fun x:HC [.b (.int .i64)]=>gV b x.1) ((j:Int),()) (CL (by decide) cn) rfl (by show iI b (n+1) (j:Int) st=_; rw [hw,if_pos hj,h1,h2]; rfl)
  ·have hj:¬ j < b.size:=by have:=of_decide_eq_false h; rw [hl] at this; exact fun h'=>this (Int.ofNat_lt.2 h')
   exact dh (s':=fun x:HC [.b (.int .i64)]=>gV b x.1) ((j:Int),()) (CL (by decide) cn) rfl (by show iI b (n+1) (j:Int) st=_; rw [hw,if_neg hj])
 ·obtain ⟨y,⟨⟩⟩:=y
  by_cases h0:0≤y∧(st.pos:Int) < y∧y≤b.size
  case neg=>exact cq (by show gV b y st=none; simp only [gV]; rw [if_neg h0])
  obtain ⟨j,rfl⟩:=Int.eq_ofNat_of_zero_le h0.1
  have hj:st.pos < j∧j≤b.size:=⟨Int.ofNat_lt.1 h0.2.1,Int.ofNat_le.1 h0.2.2⟩
  have hT:gV b (j:Int) st=some (.ok (dL b (if qO (b.extract st.pos j) then 2 else 1) st.pos j) st):=yH hj
  refine fx (Er hb 1 j) (by simp) (fun h=>by simp only [rG] at h; rw [if_pos hj] at h; cases h) (fun e=>e.elim) fun x t st' h=>?_
  simp only [rG] at h; rw [if_pos hj] at h
  simp only [Option.some.injEq,Res.ok.injEq] at h
  obtain ⟨rfl,rfl⟩:=h
  refine br fun F hx=>?_
  obtain rfl:x=dL b 1 st.pos j:=hx
  refine si _ fun b2=>?_
  refine eL (b1:=.str) (b.extract st.pos j) (List.mem_cons_self ..) (by kernel_rfl) rfl rfl ?_
  refine bW (vF _ (by simp; omega)) (by simp) (aD (fun h=>?_) (fun h=>?_))
  ·refine bY (a6 (L1:=[]) (L2:=[(b1,aq ae (aO cf))]) (l:=aO (dL b 1 st.pos j)) (T:=ak) (T0:=ae) (c:=false) rfl (by kernel_rfl) rfl (Nat.le_of_ble_eq_true rfl) (by simp [Value.cells,Value.oneCell'])) ?_
   rintro _ _ _ ⟨rfl,rfl⟩
   refine m0 (dL b 2 st.pos j) (List.mem_cons_self ..) ?_
   exact lx (L1:=[_]) (L2:=[]) (dL b 2 st.pos j) rfl rfl (by show gV b (j:Int) st=_; rw [hT,if_pos h])
  ·refine m0 (dL b 1 st.pos j) (List.mem_cons_self ..) ?_
   exact lx (L1:=[_]) (L2:=[]) (dL b 1 st.pos j) rfl rfl (by show gV b (j:Int) st=_; rw [hT,if_neg (by simp [h])])
end
end Go.Proofs.YtjlgcpgjdgeejaaGreatDoor
end

section
namespace Go.Proofs.YtjlgcpgjdgeejaaGreatDoor
open Go
set_option linter.unusedSimpArgs false
set_option linter.unusedVariables false
set_option linter.constructorNameAsVariable false
set_option maxRecDepth 100000
section
variable {b:ByteArray} {sl:aI} {pb:Nat}
theorem GX {n:Int} (h0:0≤n) (h1:n≤255):IntKind.u8.wrap n=n:=IntWalk.u8_in _ ⟨h0,h1⟩
def pF (b:ByteArray):Sp Empty dm Tok:=fun st=>(m3 b st.pos).map fun t=>.ok t st
def gO (b:ByteArray) (j:Int) (c:Bool):Sp Empty dm Tok:=fun st=>if 0≤j∧(st.pos:Int) < j∧j≤b.size then some (.ok (if c then cf else dL b 3 st.pos j.toNat) st) else none
def mC (b:ByteArray) (j v:Int):Sp Empty dm Tok:=fun st=>gO b j (ry b st.pos j.toNat v) st
def iQ (b:ByteArray) (n:Nat) (j v:Int):Sp Empty dm Tok:=fun st=>if 0≤j then (match ka b n j.toNat v with
 | none=>none
 | some (i,v)=>mC b (i:Int) v st) else none
theorem CK {j:Nat} {c:Bool} {st:dm} (h:st.pos < j∧j≤b.size):gO b (j:Int) c st=some (.ok (if c then cf else dL b 3 st.pos j) st):=by
 simp only [gO,Int.toNat_natCast]
 rw [if_pos (show (0:Int)≤(j:Int)∧(st.pos:Int) < (j:Int)∧(j:Int)≤(b.size:Int) by omega)]
theorem Ck {j:Nat} {c:Bool} {st:dm} (h:¬ (st.pos < j∧j≤b.size)):gO b (j:Int) c st=none:=by
 simp only [gO]
 rw [if_neg (show ¬ ((0:Int)≤(j:Int)∧(st.pos:Int) < (j:Int)∧(j:Int)≤(b.size:Int)) by omega)]
theorem Fp (hb:b.size≤65536):Meets PG (SI b sl pb) (aa jr #[.pointer (some ⟨pb,0,none⟩)]) fb (pF b) aJ [ByF sl b,MxF]:=by
 refine ut ⟨pb,0,none⟩ (bc fun st=>?_)
 unfold jl
 refine sG fun b1=>lp ?_
 refine g0 (fun x=>mC b x.1 x.2.1) (pU (fun n x=>iQ b n x.1 x.2.1) (b.size+1) ((st.pos:Int),(0:Int),()) rfl ?_ (fun y st=>?_) fun n y st=>?_) fun y st=>?_
 ·show pF b st=iQ b (b.size+1) (st.pos:Int) 0 st
  simp only [iQ,pF,m3,mC,Int.toNat_natCast]
  rw [if_pos (by omega)]
  cases ka b (b.size+1) st.pos 0 with
  | none=>rfl
  | some j =>
   obtain ⟨j,v⟩:=j
   by_cases h:st.pos < j∧j≤b.size
   ·simp only [CK h]; rw [if_pos h]; rfl
   ·simp only [Ck h]; rw [if_neg h]; rfl
 ·simp [iQ,ka]
 ·obtain ⟨(y:Int),(v:Int),⟨⟩⟩:=y
  have hdef:iQ b (n+1) y v st=if 0≤y then (match ka b (n+1) y.toNat v with
   | none=>none
   | some (i,v)=>mC b (i:Int) v st) else none:=rfl
  by_cases h0:0≤y
  case neg=>exact cq (by show iQ b (n+1) y v st=none; rw [hdef,if_neg h0])
  obtain ⟨j,rfl⟩:=Int.eq_ofNat_of_zero_le h0
  rw [if_pos h0] at hdef
  simp only [ka,Int.toNat_natCast] at hdef
  by_cases hv:0≤v∧v≤9007199254740992
  case neg=>exact cq (by show iQ b (n+1) (j:Int) v st=none; rw [hdef,if_neg hv])
  rw [if_pos hv] at hdef
  have hdef:∀ st,iQ b (n+1) (j:Int) v st=(match (if j < b.size∧cz (a7 b j)=true then ka b n (j+1) (if 9007199254740992 < v * 10+(a7 b j - 48) then 9007199254740992 else v * 10+(a7 b j - 48)) else some (j,v)) with
   | none=>none
   | some (i,v)=>mC b (i:Int) v st):=fun st=>by simp only [iQ,ka,Int.toNat_natCast]; rw [if_pos h0,if_pos hv]
  refine g0 (fun x st=>if x.1=true then (if j < b.size∧cz (a7 b j)=true then iQ b (n+1) (j:Int) v st else none) else if j < b.size∧cz (a7 b j)=true then none else mC b (j:Int) v st) ?_ fun y2 st2=>?_
  ·refine tG (jU (by repeat (first | exact mz | apply ms)) fun hl=>aD (fun h=>?_) (fun h=>?_))
   ·have hj:j < b.size:=by have:=of_decide_eq_true h; rw [hl] at this; exact Int.ofNat_lt.1 this
    refine tG (nE j (by repeat (first | exact mz | apply ms)) rfl hj ?_)
    refine bW (pP _) (fun _ h=>nomatch h) ?_
    refine dh (ts:=[.b .bool]) (cz (a7 b j),()) cn rfl ?_
    show iQ b (n+1) (j:Int) v st=_
    cases hd:cz (a7 b j) with
    | true=>simp [hj]
    | false=>rw [hdef]; simp [hd]
   ·have hj:¬ j < b.size:=by have:=of_decide_eq_false h; rw [hl] at this; exact fun h'=>this (Int.ofNat_lt.2 h')
    refine dh (ts:=[.b .bool]) (false,()) cn rfl ?_
    show iQ b (n+1) (j:Int) v st=_
    rw [hdef]; simp [hj]
  ·obtain ⟨c,⟨⟩⟩:=y2
   refine aD (fun h=>?_) (fun h=>?_)
   ·obtain rfl:c=true:=h
    by_cases hd:j < b.size∧cz (a7 b j)=true
    case neg=>exact cq (by show (if true=true then (if j < b.size∧cz (a7 b j)=true then iQ b (n+1) (j:Int) v st2 else none) else _)=none; rw [if_pos rfl,if_neg hd])
    refine tG (nE j (by repeat (first | exact mz | apply ms)) rfl hd.1 ?_)
    have hc:=hd.2
    simp only [cz,Bool.and_eq_true,decide_eq_true_eq] at hc
    refine gw (ts:=[.b (.int .i64),.b (.int .i64)]) (((j+1:Nat):Int),(if 9007199254740992 < v * 10+(a7 b j - 48) then 9007199254740992 else v * 10+(a7 b j - 48):Int),()) cn ?_ ?_
    ·rw [GX (n:=a7 b j - 48) (by omega) (by omega),aS (n:=a7 b j - 48) (by omega) (by omega),aS (n:=v * 10) (by omega) (by omega),aS (by omega) (by omega),aS (by omega) (by omega)]
     rfl
    ·show (if true=true then (if j < b.size∧cz (a7 b j)=true then iQ b (n+1) (j:Int) v st2 else none) else _)=iQ b n ((j+1:Nat):Int) _ st2
     rw [if_pos rfl,if_pos hd,hdef,if_pos hd]
     simp only [iQ,Int.toNat_natCast]
     rw [if_pos (show (0:Int)≤((j+1:Nat):Int) by omega)]
   ·obtain rfl:c=false:=h
    by_cases hd:j < b.size∧cz (a7 b j)=true
    ·exact cq (by show (if false=true then _ else (if j < b.size∧cz (a7 b j)=true then none else mC b (j:Int) v st2))=none; rw [if_neg (by decide),if_pos hd])
    ·refine dh (s':=fun x:HC [.b (.int .i64),.b (.int .i64)]=>mC b x.1 x.2.1) ((j:Int),v,()) (CL (by decide) cn) rfl ?_
     show (if false=true then _ else (if j < b.size∧cz (a7 b j)=true then none else mC b (j:Int) v st2))=mC b (j:Int) v st2
     rw [if_neg (by decide),if_neg hd]
 ·obtain ⟨(y:Int),(v:Int),⟨⟩⟩:=y
  show au _ _ _ _ _ _ _ _ (mC b y v st) _ _
  by_cases h0:0≤y∧(st.pos:Int) < y∧y≤b.size
  case neg=>exact cq (by simp only [mC,gO]; rw [if_neg h0])
  obtain ⟨j,rfl⟩:=Int.eq_ofNat_of_zero_le h0.1
  have hj:st.pos < j∧j≤b.size:=⟨Int.ofNat_lt.1 h0.2.1,Int.ofNat_le.1 h0.2.2⟩
  refine g0 (fun x=>gO b (j:Int) x.1) ?_ fun y2 st2=>?_
  ·refine aD (fun h=>?_) (fun h=>?_)
   ·refine dh (s':=fun x:HC [.b .bool]=>gO b (j:Int) x.1) (true,()) cn rfl ?_
    show gO b (j:Int) (ry b st.pos j v) st=_
    have:decide (v > 9007199254740991)=true:=h
    simp only [ry,this,Bool.true_or]
   ·have hv:decide (v > 9007199254740991)=false:=h
    refine g0 (fun x st=>gO b (j:Int) (x.1||(decide (j < b.size)&&dp (a7 b j))) st) ?_ fun y3 st3=>?_
    ·refine dv [] (fun _ h=>nomatch h) (oU (fC ?_))
     refine sk st.pos (by repeat (first | exact mz | apply ms)) (by repeat (first | exact mz | apply ms)) rfl (by omega) ?_
     refine aD (fun h2=>?_) (fun h2=>?_)
     ·refine fC (dh (s':=fun (x:HC [.b .bool]) st=>gO b (j:Int) (x.1||(decide (j < b.size)&&dp (a7 b j))) st) (decide (j > st.pos+1),()) cn ?_ ?_)
      ·rw [aS (by omega) (by omega)]
       show [Value.bool (decide ((j:Int) > (st.pos:Int)+1))]=[Value.bool (decide (j > st.pos+1))]
       congr 2
       exact decide_eq_decide.2 (by omega)
      ·show gO b (j:Int) (ry b st.pos j v) st=_
       simp only [ry,hv,h2,Bool.false_or,Bool.true_and]
     ·refine dh (s':=fun (x:HC [.b .bool]) st=>gO b (j:Int) (x.1||(decide (j < b.size)&&dp (a7 b j))) st) (false,()) cn rfl ?_
      show gO b (j:Int) (ry b st.pos j v) st=_
      simp only [ry,hv,h2,Bool.false_or,Bool.false_and]
    ·obtain ⟨c,⟨⟩⟩:=y3
     refine aD (fun h=>?_) (fun h=>?_)
     ·obtain rfl:c=true:=h
      exact dh (s':=fun x:HC [.b .bool]=>gO b (j:Int) x.1) (true,()) cn rfl (by simp only [Bool.true_or])
     ·obtain rfl:c=false:=h
      refine tG (jU (by repeat (first | exact mz | apply ms)) fun hl=>aD (fun h=>?_) (fun h=>?_))
      ·have hj2:j < b.size:=by have:=of_decide_eq_true h; rw [hl] at this; exact Int.ofNat_lt.1 this
       refine tG (nE j (by repeat (first | exact mz | apply ms)) rfl hj2 ?_)
       refine bW (qG _) (fun _ h=>nomatch h) ?_
       exact dh (s':=fun x:HC [.b .bool]=>gO b (j:Int) x.1) (dp (a7 b j),()) cn rfl (by simp only [Bool.false_or,hj2,decide_true,Bool.true_and])
      ·have hj2:¬ j < b.size:=by have:=of_decide_eq_false h; rw [hl] at this; exact fun h'=>this (Int.ofNat_lt.2 h')
       exact dh (s':=fun x:HC [.b .bool]=>gO b (j:Int) x.1) (false,()) cn rfl (by simp only [Bool.false_or,hj2,decide_false,Bool.false_and])
  ·obtain ⟨c,⟨⟩⟩:=y2
   show au _ _ _ _ _ _ _ _ (gO b (j:Int) c st2) _ _
   by_cases hj:st2.pos < j∧j≤b.size
   case neg=>exact cq (Ck hj)
   rw [CK hj]
   refine aD (fun h=>?_) (fun h=>?_)
   ·obtain rfl:c=true:=h
    exact lx (L1:=[]) (L2:=[]) cf rfl rfl rfl
   ·obtain rfl:c=false:=h
    refine fx (Er hb 3 j) (by simp) (fun h=>by simp only [rG] at h; rw [if_pos hj] at h; cases h) (fun e=>e.elim) fun x t st' h=>?_
    simp only [rG] at h; rw [if_pos hj] at h
    simp only [Option.some.injEq,Res.ok.injEq] at h
    obtain ⟨rfl,rfl⟩:=h
    refine br fun F hx=>?_
    obtain rfl:x=dL b 3 st2.pos j:=hx
    exact lx (L1:=[]) (L2:=[]) (dL b 3 st2.pos j) rfl rfl rfl
end
end Go.Proofs.YtjlgcpgjdgeejaaGreatDoor
end

section
namespace Go.Proofs.YtjlgcpgjdgeejaaGreatDoor
open Go
set_option linter.unusedSimpArgs false
set_option linter.unusedVariables false
set_option linter.constructorNameAsVariable false
set_option maxRecDepth 100000
section
variable {b:ByteArray} {sl:aI} {pb:Nat}
def c6 (b:ByteArray) (n:Nat):Sp Empty dm Bool:=fun st=>(d6 b n st.pos).map fun x=>.ok x.2 { st with pos:=x.1 }
def oa (b:ByteArray) (n m:Nat):Sp Empty dm Bool:=fun st=>match nf b m st.pos with
 | none=>none
 | some j=>c6 b n { st with pos:=j }
theorem rM {i n:Nat} {m:Nat} (hm:m=n) (h:decide ((i:Int) < (m:Int))=true):i < n:=by have:=of_decide_eq_true h; omega
theorem sh {i n:Nat} {m:Nat} (hm:m=n) (h:decide ((i:Int) < (m:Int))=false):¬ i < n:=by have:=of_decide_eq_false h; omega
theorem GV (hb:b.size≤65536):Meets PG (SI b sl pb) (aa jt #[.pointer (some ⟨pb,0,none⟩)]) tB (c6 b (b.size+1)) aJ [ByF sl b,MxF]:=by
 refine tW ⟨pb,0,none⟩ (bc fun st=>?_)
 unfold jn
 refine pU (fun n _=>c6 b n) (b.size+1) () rfl rfl (fun y st=>rfl) fun n y st=>?_
 show au _ _ _ _ _ _ _ _ (c6 b (n+1) st) _ _
 refine dv [] (fun _ h=>nomatch h) (fC (oU (HE fun hle=>jU (by repeat (first | exact mz | apply ms)) fun hl=>aD (fun h=>?_) (fun h=>?_))))
 ·have hj:st.pos < b.size:=rM hl h
  have hdef:d6 b (n+1) st.pos=(if decide (HQ iv (a7 b st.pos)≥0) then d6 b n (st.pos+1)
   else if oI b st.pos pJ then (match nf b (b.size+1) st.pos with
    | none=>none
    | some j=>d6 b n j)
   else if oI b st.pos k_sl_star then
    if decide (rN (b.extract (st.pos+2) b.size) ei < 0) then some (st.pos,false)
    else if st.pos+(rN (b.extract (st.pos+2) b.size) ei+4).toNat≤b.size then d6 b n (st.pos+(rN (b.extract (st.pos+2) b.size) ei+4).toNat) else none
   else some (st.pos,true)):=by rw [d6,if_pos hj]; rfl
  refine dv [] (fun _ h=>nomatch h) (oU (fC ?_))
  refine sk st.pos (by repeat (first | exact mz | apply ms)) (by repeat (first | exact mz | apply ms)) rfl hj ?_
  refine nk (Dm _ _) (fun _ h=>nomatch h) (fun _ h=>nomatch h) (aD (fun h1=>?_) (fun h1=>?_))
  ·refine lp (A9 (st.pos+1) (by rw [aS (by omega) (by omega)]; simp) (by omega) ?_)
   refine gw (sp:=fun n (_:HC [])=>c6 b n) () cn rfl ?_
   simp only [c6,hdef,h1,if_pos]
  ·refine lp ?_
   refine fx (Id hb st.pos (by omega) pJ (by decide)) (by simp) (fun h=>by cases h) (fun e=>e.elim) fun x c st' h=>?_
   simp only [Be,Option.some.injEq,Res.ok.injEq] at h
   obtain ⟨rfl,rfl⟩:=h
   refine br fun F hx=>?_
   obtain rfl:x=oI b st.pos pJ:=hx
   refine aD (fun h2=>?_) (fun h2=>?_)
   ·refine pU (fun m _=>oa b n m) (b.size+1) () rfl ?_ (fun y st=>rfl) fun m y st=>?_
    ·simp only [c6,oa,hdef,h1,h2,if_pos]
     rw [if_neg (by decide)]
     cases nf b (b.size+1) st.pos<;>rfl
    ·show au _ _ _ _ _ _ _ _ (oa b n (m+1) st) _ _
     have hd:∀ st,oa b n (m+1) st=(match (if st.pos < b.size then (if a7 b st.pos != 10 then nf b m (st.pos+1) else some st.pos) else some st.pos) with
      | none=>none
      | some j=>c6 b n { st with pos:=j }):=fun st=>rfl
     refine g0 (fun x st=>if x.1=true then (if st.pos < b.size then oa b n m { st with pos:=st.pos+1 } else none) else c6 b n st) ?_ fun y2 st2=>?_
     ·refine dv [] (fun _ h=>nomatch h) (fC (oU (jU (by repeat (first | exact mz | apply ms)) fun hl=>aD (fun h=>?_) (fun h=>?_))))
      ·have hj:st.pos < b.size:=rM hl h
       refine oU (fC ?_)
       refine sk st.pos (by repeat (first | exact mz | apply ms)) (by repeat (first | exact mz | apply ms)) rfl hj ?_
       refine dh (s':=fun (x:HC [.b .bool]) st=>if x.1=true then (if st.pos < b.size then oa b n m { st with pos:=st.pos+1 } else none) else c6 b n st) ((a7 b st.pos != 10:Bool),()) cn rfl ?_
       rw [hd,if_pos hj]
       cases hc:(a7 b st.pos != 10) with
       | true=>simp only [if_pos,hj]; rfl
       | false=>rfl
      ·have hj:¬ st.pos < b.size:=sh hl h
       refine dh (s':=fun (x:HC [.b .bool]) st=>if x.1=true then (if st.pos < b.size then oa b n m { st with pos:=st.pos+1 } else none) else c6 b n st) (false,()) cn rfl ?_
       rw [hd,if_neg hj]; rfl
     ·obtain ⟨c,⟨⟩⟩:=y2
      refine aD (fun h=>?_) (fun h=>?_)
      ·obtain rfl:c=true:=h
       by_cases hj:st2.pos < b.size
       case neg=>exact cq (by show (if true=true then (if st2.pos < b.size then _ else none) else _)=none; rw [if_pos rfl,if_neg hj])
       refine lp (A9 (st2.pos+1) (by rw [aS (by omega) (by omega)]; simp) (by omega) ?_)
       refine gw (sp:=fun m (_:HC [])=>oa b n m) () cn rfl ?_
       show (if true=true then (if st2.pos < b.size then _ else none) else _)=_
       rw [if_pos rfl,if_pos hj]
      ·obtain rfl:c=false:=h
       exact gw (sp:=fun n (_:HC [])=>c6 b n) () (CL (by decide) cn) rfl rfl
   ·refine lp ?_
    refine fx (Id hb st.pos (by omega) k_sl_star (by decide)) (by simp) (fun h=>by cases h) (fun e=>e.elim) fun x c st' h=>?_
    simp only [Be,Option.some.injEq,Res.ok.injEq] at h
    obtain ⟨rfl,rfl⟩:=h
    refine br fun F hx=>?_
    obtain rfl:x=oI b st.pos k_sl_star:=hx
    have h1':decide (HQ iv (a7 b st.pos)≥0)=false:=h1
    refine aD (fun h3=>?_) (fun h3=>?_)
    ·have h3':=h3
     simp only [oI,Bool.and_eq_true,decide_eq_true_eq,show k_sl_star.size=2 from rfl] at h3'
     have hle2:=h3'.1
     rw [h1',h2,h3,if_neg (by decide),if_neg (by decide),if_pos rfl] at hdef
     refine dv [] (fun _ h=>nomatch h) (oU (fC ?_))
     rw [aS (by omega) (by omega)]
     refine gS (t1:=ah) (gj sl (st.pos+2) b.size) (Iv (by repeat (first | exact mz | apply ms)) (st.pos+2) (by simp) hle2) ?_
     refine gS (t1:=tS) (b.extract (st.pos+2) b.size) (BB (by repeat (first | exact mz | apply ms)) _ _ hle2 (Nat.le_refl _) (by omega)) ?_
     refine nk (IF _ _ (by simp; omega)) (by simp) (fun _ h=>nomatch h) (aD (fun h4=>?_) (fun h4=>?_))
     ·rw [if_pos h4] at hdef
      exact eF (t:=tB) _ rfl (by simp only [c6,hdef]; rfl)
     ·have h4':¬ rN (b.extract (st.pos+2) b.size) ei < (0:Int):=of_decide_eq_false h4
      rw [if_neg (by rw [h4]; decide)] at hdef
      by_cases h5:st.pos+(rN (b.extract (st.pos+2) b.size) ei+4).toNat≤b.size
      case neg=>exact cq (by simp only [c6,hdef,if_neg h5]; rfl)
      rw [if_pos h5] at hdef
      refine lp (A9 (st.pos+(rN (b.extract (st.pos+2) b.size) ei+4).toNat) ?_ h5 ?_)
      ·rw [aS (n:=rN (b.extract (st.pos+2) b.size) ei+4) (by omega) (by omega),aS (by omega) (by omega)]
       omega
      ·refine gw (sp:=fun n (_:HC [])=>c6 b n) () cn rfl ?_
       simp only [c6,hdef]
    ·rw [h1',h2,h3,if_neg (by decide),if_neg (by decide),if_neg (by decide)] at hdef
     exact eF (t:=tB) _ rfl (by simp only [c6,hdef]; rfl)
 ·have hj:¬ st.pos < b.size:=sh hl h
  exact eF (t:=tB) _ rfl (by simp only [c6,d6,if_neg hj]; rfl)
def vm (b:ByteArray):Sp Empty dm Tok:=fun st=>Ic (sY b st)
def je (st:dm):Option (Option Tok)→Option (Res Empty dm Tok)
 | none=>none
 | some none=>some (.ok cf st)
 | some (some t)=>(nZ t.text st.opn).map fun o=>.ok t { st with opn:=o }
def iK (b:ByteArray) (f:Nat) (k:Int):Sp Empty dm Tok:=fun st=>if 0≤k then je st (fO b st.pos f k.toNat) else none
theorem Hk {Γ:List Fact} {k:Nat} (hk:k < 3):PVal PG Γ (qk eK (.agg #[.string pL,.string pG,.string pj]) (.int .i64 (k:Int))) (.string (iN k)):=PVal.pure fun w=>by
 have hu:PG.underlying eK=some (.array 3 aF):=by kernel_rfl
 have hs:ci PG aF=some (false,1):=by kernel_rfl
 have h3:k=0∨k=1∨k=2:=by omega
 rcases h3 with rfl | rfl | rfl<;>simp [qk,cj,Instr.index,asIntOf,run_underlying hu,(dk hs).1,(dk hs).2,iN,part]
theorem E3 (k:Nat):(iN k).size < 4294967281:=by
 unfold iN
 split<;>decide
theorem JS (hb:b.size≤65536):Meets PG (SI b sl pb) (aa kM #[.pointer (some ⟨pb,0,none⟩)]) fb (vm b) aJ [ByF sl b,MxF]:=by
 refine xQ ⟨pb,0,none⟩ (bc fun st=>?_)
 unfold kJ
 refine sG fun b1=>?_
 refine bY (bF (z:=[.string kE,.string kE,.string kE]) (by kernel_rfl)) ?_
 rintro _ _ _ ⟨b2,rfl,rfl,rfl⟩
 refine bY (a6 (L1:=[]) (L2:=[(b1,aq ae (aO cf))]) (l:=[.string kE,.string kE,.string kE]) (T:=eK) (T0:=eK) (c:=true) rfl (by kernel_rfl) rfl (Nat.le_of_ble_eq_true rfl) (by simp [Value.cells,Value.oneCell'])) ?_
 rintro _ _ _ ⟨rfl,rfl⟩
 refine bY (ft (bs:=[.str,.str,.str]) (l:=[.string pL,.string pG,.string pj]) (T0:=eK) (pL,pG,pj,()) (Rd.own (List.mem_cons_self ..)) (by kernel_rfl) rfl rfl) ?_
 rintro _ _ _ ⟨rfl,rfl,rfl⟩
 refine vH (L':=[(b1,aq ae (aO cf))]) (List.sublist_cons_self ..) ?_
 refine g0 (fun _ st=>some (.ok cf st)) (pU (fun f x=>iK b f x.1) 4 ((0:Int),()) rfl ?_ (fun y st=>?_) fun f y st=>?_) fun y st=>?_
 ·show vm b st=iK b 4 0 st
  simp only [iK,vm,sY,Ic]
  rw [if_pos (by decide)]
  show Option.map _ (match fO b st.pos 4 0 with | none=>none | some none=>some (cf,st) | some (some t)=>Option.map (fun o=>(t,{ st with opn:=o })) (nZ t.text st.opn))=je st (fO b st.pos 4 0)
  cases fO b st.pos 4 0 with
  | none=>rfl
  | some x =>
   cases x with
   | none=>rfl
   | some t=>simp only [je,Option.map_map]; rfl
 ·show iK b 0 y.1 st=none
  simp [iK,fO,je]
 ·obtain ⟨(k:Int),⟨⟩⟩:=y
  show au _ _ _ _ _ _ _ _ (iK b (f+1) k st) _ _
  by_cases h0:0≤k
  case neg=>exact cq (by simp only [iK]; rw [if_neg h0])
  obtain ⟨k,rfl⟩:=Int.eq_ofNat_of_zero_le h0
  have hdef:iK b (f+1) (k:Int) st=je st (fO b st.pos (f+1) k):=by simp only [iK,Int.toNat_natCast]; rw [if_pos h0]
  refine aD (fun h=>?_) (fun h=>?_)
  ·have hk:k < 3:=by have:(k:Int) < 3:=of_decide_eq_true h; omega
   have hnext:∀ st:dm,iK b f (IntKind.i64.wrap ((k:Int)+1)) st=je st (fO b st.pos f (k+1)):=fun st=>by
    rw [aS (by omega) (by omega)]
    simp only [iK]
    rw [if_pos (by omega),show ((k:Int)+1).toNat=k+1 by omega]
   simp only [fO,if_pos hk] at hdef
   refine cd (t1:=tS) (iN k) (Hk hk) ?_
   refine dv [] (fun _ h=>nomatch h) (oU (fC (HE fun hle=>jU (by repeat (first | exact mz | apply ms)) fun hl=>?_)))
   rw [hl,aS (n:=(b.size:Int) - (st.pos:Int)) (by omega) (by omega),aS (n:=3 - (k:Int)) (by omega) (by omega)]
   refine aD (fun h1=>?_) (fun h1=>?_)
   ·rw [if_pos h1] at hdef
    exact gw (sp:=fun f (x:HC [.b (.int .i64)])=>iK b f x.1) (IntKind.i64.wrap ((k:Int)+1),()) cn rfl (by rw [hdef,hnext])
   ·rw [if_neg (by rw [h1]; decide)] at hdef
    have h1':¬ (b.size:Int) - st.pos < 3 - (k:Int):=of_decide_eq_false h1
    have hn:st.pos < st.pos+(3 - k)∧st.pos+(3 - k)≤b.size:=by omega
    cases ha:rS (b.extract st.pos (st.pos+(3 - k))) with
    | false=>rw [ha,if_neg (by decide)] at hdef; exact cq hdef
    | true =>
    rw [ha,if_pos rfl] at hdef
    refine lp ?_
    rw [aS (by omega) (by omega),show (st.pos:Int)+(3 - (k:Int))=((st.pos+(3 - k):Nat):Int) by omega]
    refine fx (Er hb 9 (st.pos+(3 - k))) (by simp) (fun h=>by simp only [rG] at h; rw [if_pos hn] at h; cases h) (fun e=>e.elim) fun x t st' h=>?_
    simp only [rG] at h; rw [if_pos hn] at h
    simp only [Option.some.injEq,Res.ok.injEq] at h
    obtain ⟨rfl,rfl⟩:=h
    refine br fun F hx=>?_
    obtain rfl:x=dL b 9 st.pos (st.pos+(3 - k)):=hx
    refine si _ fun b3=>?_
    let X:=b.extract st.pos (st.pos+(3 - k))
    have hX:X.size≤3:=by show (b.extract st.pos (st.pos+(3 - k))).size≤3; simp; omega
    refine g0 (fun x st'=>if st'=st then (if x.1=true then je st (fO b st.pos f (k+1)) else je st (some (some (dL b 9 st.pos (st.pos+(3 - k)))))) else none) ?_ fun y2 st2=>?_
    ·refine eL (b1:=.str) X (List.mem_cons_self ..) (by kernel_rfl) rfl rfl ?_
     refine bW (z6 X iO (by omega) (by decide) ha (by decide)) (by simp) (aD (fun h2=>?_) (fun h2=>?_))
     ·refine dh (s':=fun (x:HC [.b .bool]) st'=>if st'=st then (if x.1=true then je st (fO b st.pos f (k+1)) else je st (some (some (dL b 9 st.pos (st.pos+(3 - k)))))) else none) (true,()) cn rfl ?_
      rw [if_pos rfl,if_pos rfl,hdef,if_pos h2]
     ·rw [if_neg (by rw [show Ju (b.extract st.pos (st.pos+(3 - k))) iO=false from h2]; decide)] at hdef
      refine eL (b1:=.str) X (List.mem_cons_self ..) (by kernel_rfl) rfl rfl ?_
      refine cd (t1:=tS) (k_sp++X) (PVal.pure fun w=>ep _ _ (by have:k_sp.size=1:=rfl; omega)) ?_
      refine cd (t1:=tS) (k_sp++X++k_sp) (PVal.pure fun w=>ep _ _ (by have:k_sp.size=1:=rfl; simp; omega)) ?_
      refine bW (mY (iN k) (k_sp++X++k_sp) (E3 k)) (by simp) ?_
      refine dh (s':=fun (x:HC [.b .bool]) st'=>if st'=st then (if x.1=true then je st (fO b st.pos f (k+1)) else je st (some (some (dL b 9 st.pos (st.pos+(3 - k)))))) else none) ((!uR (iN k) (k_sp++X++k_sp):Bool),()) cn rfl ?_
      rw [if_pos rfl,hdef]
      cases hc:uR (iN k) (k_sp++X++k_sp) with
      | true=>rw [if_neg (by decide)]; rfl
      | false=>rw [if_pos (by decide)]; rfl
    ·obtain ⟨c,⟨⟩⟩:=y2
     by_cases hs2:st2=st
     case neg=>exact cq (if_neg hs2)
     subst hs2
     refine aD (fun h2=>?_) (fun h2=>?_)
     ·obtain rfl:c=true:=h2
      exact vH (List.sublist_cons_self ..) (gw (sp:=fun f (x:HC [.b (.int .i64)])=>iK b f x.1) (IntKind.i64.wrap ((k:Int)+1),()) cn rfl (by rw [if_pos rfl,if_pos rfl,hnext]))
     ·obtain rfl:c=false:=h2
      rw [if_pos rfl]
      show au _ _ _ _ _ _ _ _ ((nZ X st2.opn).map fun o=>.ok (dL b 9 st2.pos (st2.pos+(3 - k))) { st2 with opn:=o }) _ _
      refine eL (b1:=.str) X (List.mem_cons_self ..) (by kernel_rfl) rfl rfl (aD (fun h3=>?_) (fun h3=>?_))
      ·have h3':(X.toList==k_lc.toList)=true:=h3
       by_cases hlen:st2.opn.length < 1048576
       case neg=>exact cq (by simp only [nZ]; rw [if_pos h3',if_neg hlen]; rfl)
       refine IZ hlen (m0 (dL b 9 st2.pos (st2.pos+(3 - k))) (List.mem_cons_self ..) ?_)
       exact lx (L1:=[_]) (L2:=[]) (dL b 9 st2.pos (st2.pos+(3 - k))) rfl rfl (by simp only [nZ]; rw [if_pos h3',if_pos hlen]; rfl)
      ·have h3':¬ (X.toList==k_lc.toList)=true:=by rw [show (X.toList==k_lc.toList)=false from h3]; decide
       refine aD (fun h4=>?_) (fun h4=>?_)
       ·have h4':(X.toList==k_rc.toList)=true:=h4
        refine K9 (f:=fun n=>if IntKind.i64.wrap (n - 1) > 0 then IntKind.i64.wrap (n - 1) else 0) (fun n hn=>?_) (m0 (dL b 9 st2.pos (st2.pos+(3 - k))) (List.mem_cons_self ..) ?_)
        ·rw [aS (by omega) (by omega)]
         split<;>omega
        ·exact lx (L1:=[_]) (L2:=[]) (dL b 9 st2.pos (st2.pos+(3 - k))) rfl rfl (by simp only [nZ]; rw [if_neg h3',if_pos h4']; rfl)
       ·have h4':¬ (X.toList==k_rc.toList)=true:=by rw [show (X.toList==k_rc.toList)=false from h4]; decide
        refine m0 (dL b 9 st2.pos (st2.pos+(3 - k))) (List.mem_cons_self ..) ?_
        exact lx (L1:=[_]) (L2:=[]) (dL b 9 st2.pos (st2.pos+(3 - k))) rfl rfl (by simp only [nZ]; rw [if_neg h3',if_neg h4']; rfl)
  ·have hk:¬ k < 3:=by have:¬ (k:Int) < 3:=of_decide_eq_false h; omega
   simp only [fO,if_neg hk] at hdef
   exact dh (s':=fun (_:HC []) st=>some (.ok cf st)) () (CL (by decide) cn) rfl hdef
 ·exact lx (L1:=[]) (L2:=[]) cf rfl rfl rfl
end
end Go.Proofs.YtjlgcpgjdgeejaaGreatDoor
end

section
namespace Go.Proofs.YtjlgcpgjdgeejaaGreatDoor
open Go
set_option linter.unusedVariables false
set_option maxRecDepth 100000
noncomputable section
def BP:An :=
 .s (.r [none,none]) (.s (.b (.s (.r [none,none,none]) (.c (.s (.r [none,none,none,none]) (.x)) (.s (.r [none,some cB,none,none]) (.c (.s (.r [none,some cB,none,none,none]) (.x)) (.s (.r [none,some cB,none,none]) (.c (.s (.r [none,some cB,none,none,none]) (.x)) (.s (.r [none,some cB,none,none]) (.c (.s (.r [none,some cB,none,none,none]) (.x)) (.x)))))))))) (.s (.r [none,none]) (.x)))
def o3 (a0_c:Int):T :=
 .ite (decide ((a0_c:Int) < 128)) (
 .ret #[.v (.int .i64 1),.v (.int .i32 (IntKind.i32.wrap a0_c))]) (
 .op (bT .shr aP (.int .u8 a0_c) (.int .u64 5)) cB fun r1 =>
 .ite ((r1:Int)==6) (
 .op (bT .and aP (.int .u8 a0_c) (.int .u8 31)) cB fun r2 =>
 .ret #[.v (.int .i64 2),.v (.int .i32 (IntKind.i32.wrap r2))]) (
 .op (bT .shr aP (.int .u8 a0_c) (.int .u64 4)) cB fun r3 =>
 .ite ((r3:Int)==14) (
 .op (bT .and aP (.int .u8 a0_c) (.int .u8 15)) cB fun r4 =>
 .ret #[.v (.int .i64 3),.v (.int .i32 (IntKind.i32.wrap r4))]) (
 .op (bT .shr aP (.int .u8 a0_c) (.int .u64 3)) cB fun r5 =>
 .ite ((r5:Int)==30) (
 .op (bT .and aP (.int .u8 a0_c) (.int .u8 7)) cB fun r6 =>
 .ret #[.v (.int .i64 4),.v (.int .i32 (IntKind.i32.wrap r6))]) (
 .ret #[.v (.int .i64 0),.v (.int .i32 0)]))))
theorem Do (a0_c:Int):bh Tryz.prog Tryz.f211 BP [.int .u8 a0_c]=o3 a0_c:=by kernel_rfl
theorem De {ε σ β:Type} {I:av ε σ} {t:Ty} {s:Sp ε σ β} {Rel:β→t.den→al→Fact} {Γ:List Fact} (a0_c:Int) (h:Sim Tryz.prog I t Rel noLabel none (o3 a0_c) s [] Γ):MeetsO Tryz.prog I (aa o5 #[.int .u8 a0_c]) t s Rel Γ :=
 aj (args:=[.int .u8 a0_c]) Tryz.func211 rfl rfl (Nat.le_of_ble_eq_true rfl) (by rw [Do]; exact h)
def BM:An :=
 .s (.r [none]) (.s (.s (.r [none]) (.b (.s (.r [none,none]) (.c (.s (.r [none]) (.x)) (.s (.r [none,none]) (.c (.s (.r [none,none,none]) (.x)) (.s (.r [none,none]) (.c (.s (.r [none,none,none,none,none,none,none,none,none,none,none]) (.x)) (.x))))))))) (.s (.r [none,none,none,none,none,none,none]) (.x)))
def oW (a0_r:Int) (a1_n:Int):T :=
 .ite ((a1_n:Int)==1) (
 .ret #[.v (.bool true)]) (
 .ite ((a1_n:Int)==2) (
 .ret #[.v (.bool (decide ((a0_r:Int)≥128)))]) (
 .ite ((a1_n:Int)==3) (
 .ite (decide ((a0_r:Int)≥2048)) (
 .ite (decide ((a0_r:Int) < 55296)) (
 .ret #[.v (.bool true)]) (
 .ret #[.v (.bool (decide ((a0_r:Int) > 57343)))])) (
 .ret #[.v (.bool false)])) (
 .ite (decide ((a0_r:Int)≥65536)) (
 .ret #[.v (.bool (decide ((a0_r:Int)≤1114111)))]) (
 .ret #[.v (.bool false)]))))
theorem CV (a0_r:Int) (a1_n:Int):bh Tryz.prog Tryz.f212 BM [.int .i32 a0_r,.int .i64 a1_n]=oW a0_r a1_n:=by kernel_rfl
theorem DJ {ε σ β:Type} {I:av ε σ} {t:Ty} {s:Sp ε σ β} {Rel:β→t.den→al→Fact} {Γ:List Fact} (a0_r:Int) (a1_n:Int) (h:Sim Tryz.prog I t Rel noLabel none (oW a0_r a1_n) s [] Γ):MeetsO Tryz.prog I (aa oF #[.int .i32 a0_r,.int .i64 a1_n]) t s Rel Γ :=
 aj (args:=[.int .i32 a0_r,.int .i64 a1_n]) Tryz.func212 rfl rfl (Nat.le_of_ble_eq_true rfl) (by rw [CV]; exact h)
def xw:An :=
 .s (.r [none,none,none]) (.s (.s (.j [(18,.b .bool)] (.r [none,none,none,none,none,none,none,none])) (.c (.s (.r [none,none,none]) (.x)) (.x))) (.s (.r [none,none,some tA,some cB,some (.tup [.b (.int .i64),.b (.int .i32)]),none,none,none,none,none]) (.s (.s (.j [(36,.b .bool)] (.r [none,none,none,none,none,none,none,none,none,none])) (.c (.s (.r [none,none,none]) (.x)) (.x))) (.s (.s (.r [none,none,none,none,none,none,some ah,none,none]) (.j [(8,.b (.int .i32))] (.b (.l [(8,.b (.int .i32)),(45,.b (.int .i64))] (.s (.r [none]) (.s (.c (.x) (.x)) (.s (.b (.s (.r [some tA,some cB,none]) (.s (.s (.r [none,some cB,none]) (.c (.s (.r [none,none,none]) (.x)) (.x))) (.r [none,some ys,none,some cB,none,some ys,none])))) (.r [none,none])))))))) (.s (.s (.r [none,none,some tB,none]) (.c (.s (.r [none,none,none]) (.x)) (.x))) (.s (.r [none,none,none,none,none]) (.x)))))))
def l4 (a0_a0:Option Addr × Nat × Nat) (a1_a1:Int):T :=
 .join 0 [.b .bool] (
 .ite (decide ((a1_a1:Int) < 0)) (
 .out 0 [.bool true]) (
 .out 0 [.bool (decide ((a1_a1:Int)≥(a0_a0.2.1:Int)))])) fun x1 =>
 .ite x1.1 (
 .ret #[.v (.int .i32 0),.v (.int .i64 0),.v (.bool false)]) (
 .op (aR aC (.slice a0_a0.1 a0_a0.2.1 a0_a0.2.2) (.int .i64 a1_a1)) tA fun r2 =>
 .op (ai aP (.pointer (some r2))) cB fun r3 =>
 .op (aa o5 #[.int .u8 r3]) (.tup [.b (.int .i64),.b (.int .i32)]) fun r4 =>
 .join 0 [.b .bool] (
 .ite ((r4.1:Int)==0) (
 .out 0 [.bool true]) (
 .out 0 [.bool (decide ((r4.1:Int) > (IntKind.i64.wrap ((a0_a0.2.1:Int) - a1_a1))))])) fun x5 =>
 .ite x5.1 (
 .ret #[.v (.int .i32 65533),.v (.int .i64 1),.v (.bool false)]) (
 .op (d8 aC (.slice a0_a0.1 a0_a0.2.1 a0_a0.2.2) (some (.int .i64 (IntKind.i64.wrap (a1_a1+1)))) (some (.int .i64 (IntKind.i64.wrap (a1_a1+r4.1)))) none) ah fun r6 =>
 .join 0 [.b (.int .i32)] (
 .loop 1 [.b (.int .i32),.b (.int .i64)] [.int .i32 r4.2.1,.int .i64 0] fun x7 =>
 .ite (decide ((x7.2.1:Int) < (r6.2.1:Int))) (
 .op (aR aC (.slice r6.1 r6.2.1 r6.2.2) (.int .i64 x7.2.1)) tA fun r8 =>
 .op (ai aP (.pointer (some r8))) cB fun r9 =>
 .op (bT .shr aP (.int .u8 r9) (.int .u64 6)) cB fun r10 =>
 .ite ((r10:Int) != 2) (
 .ret #[.v (.int .i32 65533),.v (.int .i64 1),.v (.bool false)]) (
 .op (bT .shl DT (.int .i32 x7.1) (.int .u64 6)) ys fun r11 =>
 .op (bT .and aP (.int .u8 r9) (.int .u8 63)) cB fun r12 =>
 .op (bT .or DT (.int .i32 r11) (.int .i32 (IntKind.i32.wrap r12))) ys fun r13 =>
 .out 1 [.int .i32 r13,.int .i64 (IntKind.i64.wrap (x7.2.1+1))])) (
 .out 0 [.int .i32 x7.1])) fun x14 =>
 .op (aa oF #[.int .i32 x14.1,.int .i64 r4.1]) tB fun r15 =>
 .ite (!r15) (
 .ret #[.v (.int .i32 65533),.v (.int .i64 1),.v (.bool false)]) (
 .ret #[.v (.int .i32 x14.1),.v (.int .i64 r4.1),.v (.bool true)])))
theorem zh (a0_a0:Option Addr × Nat × Nat) (a1_a1:Int):bh Tryz.prog Tryz.f169 xw [.slice a0_a0.1 a0_a0.2.1 a0_a0.2.2,.int .i64 a1_a1]=l4 a0_a0 a1_a1:=by kernel_rfl
theorem AQ {ε σ β:Type} {I:av ε σ} {t:Ty} {s:Sp ε σ β} {Rel:β→t.den→al→Fact} {Γ:List Fact} (a0_a0:Option Addr × Nat × Nat) (a1_a1:Int) (h:Sim Tryz.prog I t Rel noLabel none (l4 a0_a0 a1_a1) s [] Γ):MeetsO Tryz.prog I (aa lV #[.slice a0_a0.1 a0_a0.2.1 a0_a0.2.2,.int .i64 a1_a1]) t s Rel Γ :=
 aj (args:=[.slice a0_a0.1 a0_a0.2.1 a0_a0.2.2,.int .i64 a1_a1]) Tryz.func169 rfl rfl (Nat.le_of_ble_eq_true rfl) (by rw [zh]; exact h)
def uM:An :=
 .s (.r [some tA,none]) (.s (.r [none,some tB,none]) (.s (.r [none,none,none,some tI,none,some tA,some tU]) (.s (.s (.r [none,none]) (.c (.s (.r [some (.c (.agg [.int .i64,.str,.int .i64,.int .i64])),some tU,none]) (.x)) (.x))) (.s (.s (.d (.q 0 none (.q 1 none (.q 2 none (.q 3 (some tI) (.q 4 none (.q 5 none (.q 6 none (.q 7 (some ah) (.q 8 none (.q 9 none (.e)))))))))))) (.c (.s (.d (.q 0 none (.q 1 none (.q 2 none (.q 3 (some tI) (.q 4 none (.q 5 none (.q 6 none (.q 7 (some tI) (.q 8 none (.l 9 (some tU) (.q 10 none (.e))))))))))))) (.x)) (.x))) (.s (.s (.d (.q 0 none (.q 1 none (.q 2 none (.q 3 (some ah) (.q 4 none (.q 5 none (.q 6 none (.q 7 (some tI) (.q 8 (some tA) (.q 9 (some cB) (.q 10 none (.e))))))))))))) (.b (.s (.r [none,some tB,none]) (.j [] (.c (.r [none,some (.c (.agg [.int .i64,.str,.int .i64,.int .i64])),some tU]) (.s (.r [none,some tB,none]) (.c (.r [none,some (.c (.agg [.int .i64,.str,.int .i64,.int .i64])),some tU]) (.s (.j [(58,.b .bool)] (.r [none,none,none,none,none,none,none])) (.c (.r [none,none,some (.c (.agg [.int .i64,.str,.int .i64,.int .i64])),some tU]) (.s (.r [none,none,none]) (.c (.s (.r [none,some (.c (.agg [.int .i64,.str,.int .i64,.int .i64])),some tU]) (.s (.r [none,some tI,none]) (.c (.r [none,none,none,none,some ah,some ah,some ah,none,none,some tU]) (.x)))) (.s (.j [(85,.b .bool)] (.d (.q 0 none (.q 1 none (.q 2 none (.q 3 none (.q 4 none (.q 5 none (.q 6 (some ah) (.q 7 none (.q 8 none (.q 9 none (.q 10 none (.q 11 none (.q 12 none (.q 13 none (.q 14 (some ah) (.q 15 none (.q 16 none (.q 17 none (.q 18 (some ah) (.q 19 none (.q 20 none (.q 21 (some tA) (.q 22 (some tB) (.q 23 none (.q 24 none (.e)))))))))))))))))))))))))))) (.c (.s (.r [none,some (.c (.agg [.int .i64,.str,.int .i64,.int .i64])),some tU]) (.s (.r [none,some tI,none]) (.c (.d (.q 0 none (.q 1 none (.q 2 none (.q 3 none (.q 4 (some ah) (.q 5 none (.q 6 none (.q 7 none (.q 8 (some ah) (.q 9 none (.q 10 none (.q 11 (some ah) (.q 12 none (.q 13 none (.l 14 (some tU) (.e))))))))))))))))) (.x)))) (.r [none,some (.c (.agg [.int .i64,.str,.int .i64,.int .i64])),some tU])))))))))))))) (.s (.s (.r [none,some tI,none]) (.c (.s (.r [none,none,none,some tI,none,some tU,none]) (.x)) (.x))) (.s (.r [none,none,some tI,none,none,some tU]) (.s (.r [some (.c (.agg [.int .i64,.str,.int .i64,.int .i64])),some tU,none]) (.x)))))))))
def kx (a0_a0:Addr):T :=
 .op (bj ae) tA fun r1 =>
 .op (aa jt #[.pointer (some a0_a0)]) tB fun r2 =>
 .op (ai ak (.pointer (some ⟨a0_a0.block,a0_a0.off+1,none⟩))) tI fun r3 =>
 .op (bj ae) tA fun r4 =>
 .op (aW ae (.pointer (some r4)) (.agg #[.int .i64 0,.string kE,.int .i64 r3,.int .i64 0])) tU fun _ =>
 .ite (!r2) (
 .op (ai ae (.pointer (some r4))) (.c (.agg [.int .i64,.str,.int .i64,.int .i64])) fun r6 =>
 .op (aW ae (.pointer (some r1)) (.agg #[.int .i64 r6.1,.string r6.2.1,.int .i64 r6.2.2.1,.int .i64 r6.2.2.2.1])) tU fun _ =>
 .ret #[.c (.pointer (some r1)) ae,.v (.bool false)]) (
 .draw <|
 .opq (ai ak (.pointer (some ⟨a0_a0.block,a0_a0.off+1,none⟩))) tI fun r8 =>
 .opq (ai aC (.pointer (some a0_a0))) ah fun r9 =>
 .ite ((r8:Int)==(r9.2.1:Int)) (
 .draw <|
 .opq (ai ak (.pointer (some ⟨a0_a0.block,a0_a0.off+1,none⟩))) tI fun r10 =>
 .opq (ai ak (.pointer (some ⟨a0_a0.block,a0_a0.off+1,none⟩))) tI fun r11 =>
 .opl (aW ae (.pointer (some r1)) (.agg #[.int .i64 10,.string kE,.int .i64 r10,.int .i64 r11])) tU fun _ =>
 .ret #[.c (.pointer (some r1)) ae,.v (.bool true)]) (
 .draw <|
 .opq (ai aC (.pointer (some a0_a0))) ah fun r13 =>
 .opq (ai ak (.pointer (some ⟨a0_a0.block,a0_a0.off+1,none⟩))) tI fun r14 =>
 .opq (aR aC (.slice r13.1 r13.2.1 r13.2.2) (.int .i64 r14)) tA fun r15 =>
 .opq (ai aP (.pointer (some r15))) cB fun r16 =>
 .op (aa fo #[.int .u8 r16]) tB fun r17 =>
 .join 0 [] (
 .ite r17 (
 .op (aa kP #[.pointer (some a0_a0)]) (.c (.agg [.int .i64,.str,.int .i64,.int .i64])) fun r18 =>
 .op (aW ae (.pointer (some r4)) (.agg #[.int .i64 r18.1,.string r18.2.1,.int .i64 r18.2.2.1,.int .i64 r18.2.2.2.1])) tU fun _ =>
 .out 0 []) (
 .op (aa eY #[.int .u8 r16]) tB fun r20 =>
 .ite r20 (
 .op (aa jr #[.pointer (some a0_a0)]) (.c (.agg [.int .i64,.str,.int .i64,.int .i64])) fun r21 =>
 .op (aW ae (.pointer (some r4)) (.agg #[.int .i64 r21.1,.string r21.2.1,.int .i64 r21.2.2.1,.int .i64 r21.2.2.2.1])) tU fun _ =>
 .out 0 []) (
 .join 1 [.b .bool] (
 .ite ((r16:Int)==34) (
 .out 1 [.bool true]) (
 .out 1 [.bool ((r16:Int)==39)])) fun x23 =>
 .ite x23.1 (
 .op (aa uD #[.pointer (some a0_a0),.int .u8 r16]) (.c (.agg [.int .i64,.str,.int .i64,.int .i64])) fun r24 =>
 .op (aW ae (.pointer (some r4)) (.agg #[.int .i64 r24.1,.string r24.2.1,.int .i64 r24.2.2.1,.int .i64 r24.2.2.2.1])) tU fun _ =>
 .out 0 []) (
 .ite ((r16:Int)==96) (
 .op (aa od #[.pointer (some a0_a0),.int .i64 5,.int .i64 6]) (.c (.agg [.int .i64,.str,.int .i64,.int .i64])) fun r26 =>
 .op (aW ae (.pointer (some r4)) (.agg #[.int .i64 r26.1,.string r26.2.1,.int .i64 r26.2.2.1,.int .i64 r26.2.2.2.1])) tU fun _ =>
 .op (ai ak (.pointer (some r4))) tI fun r28 =>
 .ite ((r28:Int)==6) (
 .op (ai bM (.pointer (some ⟨a0_a0.block,a0_a0.off+2,none⟩))) ah fun r29 =>
 .op (ar bM 1 #[(0,.bool true)]) ah fun r30 =>
 .op (dg #[bM,bM] bM #[.slice r29.1 r29.2.1 r29.2.2,.slice r30.1 r30.2.1 r30.2.2]) ah fun r31 =>
 .op (aW bM (.pointer (some ⟨a0_a0.block,a0_a0.off+2,none⟩)) (.slice r31.1 r31.2.1 r31.2.2)) tU fun _ =>
 .out 0 []) (
 .out 0 [])) (
 .join 1 [.b .bool] (
 .draw <|
 .ite ((r16:Int)==125) (
 .opq (ai bM (.pointer (some ⟨a0_a0.block,a0_a0.off+2,none⟩))) ah fun r33 =>
 .ite (decide (((r33.2.1:Int):Int) > 0)) (
 .opq (ai bM (.pointer (some ⟨a0_a0.block,a0_a0.off+2,none⟩))) ah fun r34 =>
 .opq (ai bM (.pointer (some ⟨a0_a0.block,a0_a0.off+2,none⟩))) ah fun r35 =>
 .opq (aR bM (.slice r34.1 r34.2.1 r34.2.2) (.int .i64 (IntKind.i64.wrap ((r35.2.1:Int) - 1)))) tA fun r36 =>
 .opq (ai bq (.pointer (some r36))) tB fun r37 =>
 .out 1 [.bool r37]) (
 .out 1 [.bool false])) (
 .out 1 [.bool false])) fun x38 =>
 .ite x38.1 (
 .op (aa od #[.pointer (some a0_a0),.int .i64 8,.int .i64 7]) (.c (.agg [.int .i64,.str,.int .i64,.int .i64])) fun r39 =>
 .op (aW ae (.pointer (some r4)) (.agg #[.int .i64 r39.1,.string r39.2.1,.int .i64 r39.2.2.1,.int .i64 r39.2.2.2.1])) tU fun _ =>
 .op (ai ak (.pointer (some r4))) tI fun r41 =>
 .ite ((r41:Int)==8) (
 .draw <|
 .opq (ai bM (.pointer (some ⟨a0_a0.block,a0_a0.off+2,none⟩))) ah fun r42 =>
 .opq (ai bM (.pointer (some ⟨a0_a0.block,a0_a0.off+2,none⟩))) ah fun r43 =>
 .opq (d8 bM (.slice r42.1 r42.2.1 r42.2.2) none (some (.int .i64 (IntKind.i64.wrap ((r43.2.1:Int) - 1)))) none) ah fun r44 =>
 .op (aW bM (.pointer (some ⟨a0_a0.block,a0_a0.off+2,none⟩)) (.slice r44.1 r44.2.1 r44.2.2)) tU fun _ =>
 .out 0 []) (
 .out 0 [])) (
 .op (aa kM #[.pointer (some a0_a0)]) (.c (.agg [.int .i64,.str,.int .i64,.int .i64])) fun r46 =>
 .op (aW ae (.pointer (some r4)) (.agg #[.int .i64 r46.1,.string r46.2.1,.int .i64 r46.2.2.1,.int .i64 r46.2.2.2.1])) tU fun _ =>
 .out 0 [])))))) fun x48 =>
 .op (ai ak (.pointer (some r4))) tI fun r49 =>
 .ite ((r49:Int)==0) (
 .op (ai ak (.pointer (some ⟨a0_a0.block,a0_a0.off+1,none⟩))) tI fun r50 =>
 .op (aW ae (.pointer (some r1)) (.agg #[.int .i64 0,.string kE,.int .i64 r50,.int .i64 0])) tU fun _ =>
 .ret #[.c (.pointer (some r1)) ae,.v (.bool false)]) (
 .op (ai ak (.pointer (some ⟨r4.block,r4.off+3,none⟩))) tI fun r52 =>
 .op (aW ak (.pointer (some ⟨a0_a0.block,a0_a0.off+1,none⟩)) (.int .i64 r52)) tU fun _ =>
 .op (ai ae (.pointer (some r4))) (.c (.agg [.int .i64,.str,.int .i64,.int .i64])) fun r54 =>
 .op (aW ae (.pointer (some r1)) (.agg #[.int .i64 r54.1,.string r54.2.1,.int .i64 r54.2.2.1,.int .i64 r54.2.2.2.1])) tU fun _ =>
 .ret #[.c (.pointer (some r1)) ae,.v (.bool true)])))
theorem yr (a0_a0:Addr):bh Tryz.prog Tryz.f72 uM [.pointer (some a0_a0)]=kx a0_a0:=by kernel_rfl
theorem xK {ε σ β:Type} {I:av ε σ} {t:Ty} {s:Sp ε σ β} {Rel:β→t.den→al→Fact} {Γ:List Fact} (a0_a0:Addr) (h:Sim Tryz.prog I t Rel noLabel none (kx a0_a0) s [] Γ):MeetsO Tryz.prog I (aa kT #[.pointer (some a0_a0)]) t s Rel Γ :=
 aj (args:=[.pointer (some a0_a0)]) Tryz.func72 rfl rfl (Nat.le_of_ble_eq_true rfl) (by rw [yr]; exact h)
end
end Go.Proofs.YtjlgcpgjdgeejaaGreatDoor
end

section
namespace Go.Proofs.YtjlgcpgjdgeejaaGreatDoor
open Go
set_option linter.unusedSimpArgs false
set_option linter.unusedVariables false
set_option linter.constructorNameAsVariable false
set_option maxRecDepth 100000
section
variable {b:ByteArray} {sl:aI} {pb:Nat}
theorem IG {β:Type} {t:Ty} {Rel:β→t.den→al→Fact} {Δ:Labels Empty dm β} {L Lq:al} {Γ Γq:List Fact} {st:dm} {run:Option (Res Empty dm β)} {k1:Bool→T} {k2:T}
  (h1:∀ c,st.opn.getLast? = some c→au PG (SI b sl pb) t Rel Δ (some (Γq,Lq)) st (k1 c) run L Γ) (h2:st.opn.getLast? = none→au PG (SI b sl pb) t Rel Δ (some (Γq,Lq)) st k2 run L Γ) :
  au PG (SI b sl pb) t Rel Δ (some (Γq,Lq)) st (.opq (ai bM (.pointer (some ⟨pb,0+2,none⟩))) ah fun r33=>.ite (decide (((r33.2.1:Int):Int) > 0)) (
   .opq (ai bM (.pointer (some ⟨pb,0+2,none⟩))) ah fun r34=>.opq (ai bM (.pointer (some ⟨pb,0+2,none⟩))) ah fun r35 =>
   .opq (aR bM (.slice r34.1 r34.2.1 r34.2.2) (.int .i64 (IntKind.i64.wrap ((r35.2.1:Int) - 1)))) tA fun r36=>.opq (ai bq (.pointer (some r36))) tB k1) k2) run L Γ:=by
 intro H
 refine lm fun osl=>lm fun K=>kp fun ⟨hH,hB,hp⟩=>?_
 subst hH
 have hl:=hB.len
 simp only [List.length_map,Nat.mul_one] at hl
 have hinv:∀ F,((SI b sl pb).inv st ((pb,aq bX (dU sl st.pos osl))::K)).p F:=fun F=>⟨osl,K,rfl,hB,hp⟩
 refine cC (t1:=ah) osl (bR (QRd.own (List.mem_cons_self ..)) (by kernel_rfl) rfl rfl) (jG (fun h=>?_) (fun h=>?_))
 ·have hpos:0 < osl.2.1:=by have:=of_decide_eq_true h; omega
  obtain ⟨g,cells,rfl,hx1,h3,h4,h5,h6,h7⟩:=hB.open hpos
  refine cC (t1:=ah) osl (bR (QRd.own (List.mem_cons_self ..)) (by kernel_rfl) rfl rfl) ?_
  refine cC (t1:=ah) osl (bR (QRd.own (List.mem_cons_self ..)) (by kernel_rfl) rfl rfl) ?_
  refine cC (t1:=tA) ⟨g,osl.2.1 - 1,none⟩ (lH fun w=>?_) ?_
  ·have hm:osl.2.2≤9223372036854775807:=by unfold maxLen at h5; omega
   rw [aS (by omega) (by omega),hx1,fM (n:=1) (by kernel_rfl) (by omega) (by omega)]
   have:((osl.2.1:Int) - 1).toNat * 1=osl.2.1 - 1:=by omega
   rw [this]
   simp only [Ty.enc,C.enc,B.enc]
   congr 4
   obtain ⟨x1,x2,x3⟩:=dx (⟨g,0,none⟩:Addr) rfl (osl.2.1 - 1)
   cases hh:(⟨g,0,none⟩:Addr).add (osl.2.1 - 1) with
   | mk p o sp=>rw [hh] at x1 x2 x3; simp only at x1 x2 x3; subst x1; subst x2; subst x3; simp
  ·obtain ⟨v,hv⟩:∃ v,st.opn[osl.2.1 - 1]? = some v:=⟨_,List.getElem?_eq_getElem (by omega)⟩
   have hlast:st.opn.getLast? = some v:=by rw [List.getLast?_eq_getElem?,hl]; exact hv
   have hcell:cells[osl.2.1 - 1]? = some (.bool v):=by
    have e:(cells.take (osl.2.1 * 1))[osl.2.1 - 1]? = (st.opn.map Value.bool)[osl.2.1 - 1]?:=by rw [h7]
    rw [List.getElem?_take,if_pos (by omega),List.getElem?_map,hv] at e
    exact e
   refine cC (t1:=tB) v (bR (T0:=bq) (l:=cells) (QRd.own (List.mem_append_left _ (List.mem_cons_of_mem _ (List.mem_cons_self ..)))) (by kernel_rfl) rfl hcell) ?_
   intro r w F res S hs hF hsp hq
   exact h1 _ hlast _ r w F res S hs (Holds.cons (hinv F) hF) hsp hq
 ·have hz:osl.2.1=0:=by have:=of_decide_eq_false h; omega
  have:st.opn.getLast? = none:=by rw [List.getLast?_eq_none_iff]; exact List.eq_nil_of_length_eq_zero (by omega)
  intro r w F res S hs hF hsp hq
  exact h2 this _ r w F res S hs (Holds.cons (hinv F) hF) hsp hq
abbrev vo:Ty:=.tup [.agg d3,.b .bool]
abbrev vM:=HC [.agg d3,.b .bool]
def Gi {σ:Type} (x:(Tok × Bool) × σ):Res Empty σ vM:=.ok (x.1.1,x.1.2,()) x.2
def sM (b:ByteArray):Sp Empty dm vM:=fun st=>(sV b st).map Gi
def f6 (b:ByteArray) (t:Tok):Sp Empty dm vM:=fun st=>(G7 b t st).map Gi
theorem wX {σ:Type} {I:av Empty σ} {Δ:Labels Empty σ vM} {md:cK} {L L1 L2:al} {Γ:List Fact} {st:σ} {run:Option (Res Empty σ vM)} {b1:Nat} {l:List Value} {c:Bool} (x:Tok) (hL:L=L1++(b1,aq ae l)::L2) (hl:l.length=4) (hrun:run=some (.ok (x,c,()) st)) :
  au PG I vo (pl aJ) Δ md st (.op (aW ae (.pointer (some ⟨b1,0,none⟩)) (.agg #[.int .i64 x.1,.string x.2.1,.int .i64 x.2.2.1,.int .i64 x.2.2.2.1])) tU fun _=>.ret #[.c (.pointer (some ⟨b1,0,none⟩)) ae,.v (.bool c)]) run L Γ:=by
 refine bY (a6 (L1:=L1) (L2:=L2) (l:=l) (T:=ae) (T0:=ae) (c:=true) hL (by kernel_rfl) rfl (by simp [Value.cells,hl]) (by simp [Value.cells,Value.oneCell'])) ?_
 rintro _ _ _ ⟨rfl,rfl⟩
 have hs:bB l 0 (Value.agg #[.int .i64 x.1,.string x.2.1,.int .i64 x.2.2.1,.int .i64 x.2.2.2.1]).cells.toList=aO x:=by
  rw [qg (by simp [Value.cells,hl])]; rfl
 refine cY (t:=vo) (x,c,()) (x,c,()) hrun (fun r w F H hF hsp=>?_) fun F hF=>rfl
 refine lk (a:=⟨b1,0,none⟩) (T0:=ae) (l:=aO x) (vs:=aO x) (v:=.bool c) (by kernel_rfl) (hsp.own _ _ (List.mem_append_right _ (List.mem_append_right _ ?_))) rfl rfl
 show _∈(b1,aq ae (bB l 0 (Value.agg #[.int .i64 x.1,.string x.2.1,.int .i64 x.2.2.1,.int .i64 x.2.2.2.1]).cells.toList))::L2
 rw [hs]; exact List.mem_cons_self ..
theorem Ff {ε σ β:Type} {I:av ε σ} {t:Ty} {Rel:β→t.den→al→Fact} {Δ:Labels ε σ β} {md:cK} {L:al} {Γ:List Fact} {st:σ} {run:Option (Res ε σ β)} {k:T} {b1:Nat} {y:Tok} (x:Tok)
  (hk:au PG I t Rel Δ none st k run ((b1,aq ae (aO x))::L) Γ) :
  au PG I t Rel Δ md st (.op (aW ae (.pointer (some ⟨b1,0,none⟩)) (.agg #[.int .i64 x.1,.string x.2.1,.int .i64 x.2.2.1,.int .i64 x.2.2.2.1])) tU fun _=>k) run ((b1,aq ae (aO y))::L) Γ:=by
 refine bY (a6 (L1:=[]) (L2:=L) (l:=aO y) (T:=ae) (T0:=ae) (c:=true) rfl (by kernel_rfl) rfl (Nat.le_of_ble_eq_true rfl) (by simp [Value.cells,Value.oneCell'])) ?_
 rintro _ _ _ ⟨rfl,rfl⟩
 exact hk
theorem Jm (hb:b.size≤65536):Meets PG (SI b sl pb) (aa kT #[.pointer (some ⟨pb,0,none⟩)]) vo (sM b) aJ [ByF sl b,MxF]:=by
 refine xK ⟨pb,0,none⟩ (bc fun st=>?_)
 unfold kx
 have hdef:sM b st=(match d6 b (b.size+1) st.pos with
  | none=>none
  | some (j,fine)=>if !fine then some (Gi ((⟨0,kE,j,0,()⟩,false),{ st with pos:=j }))
   else if j=b.size then some (Gi ((⟨10,kE,j,j,()⟩,true),{ st with pos:=j }))
   else match de b (a7 b j) { st with pos:=j } with
    | none=>none
    | some (t,st')=>f6 b t st'):=by
  simp only [sM,sV]
  cases d6 b (b.size+1) st.pos with
  | none=>rfl
  | some x =>
   obtain ⟨j,fine⟩:=x
   cases fine with
   | false=>rfl
   | true =>
    simp only
    split
    ·rfl
    ·split
     ·rfl
     ·cases de b (a7 b j) { st with pos:=j }<;>rfl
 rw [hdef]
 refine sG fun b1=>?_
 refine fx (GV hb) (by simp) (fun h=>?_) (fun e=>e.elim) fun x c st' h=>?_
 ·cases h2:d6 b (b.size+1) st.pos with
  | none=>rfl
  | some x=>simp only [c6,h2] at h; cases h
 cases h2:d6 b (b.size+1) st.pos with
 | none=>simp only [c6,h2] at h; cases h
 | some x2 =>
 obtain ⟨j,fine⟩:=x2
 simp only [c6,h2,Option.map_some,Option.some.injEq,Res.ok.injEq] at h
 obtain ⟨rfl,rfl⟩:=h
 refine br fun F hx=>?_
 obtain rfl:fine=x:=hx.symm
 refine HE fun hle=>lp ?_
 refine si ((0,kE,(j:Int),0,()):Tok) fun b4=>?_
 cases fine with
 | false =>
  refine aD (fun h=>?_) (fun h=>by cases h)
  refine m0 ((0,kE,(j:Int),0,()):Tok) (List.mem_cons_self ..) ?_
  exact wX (L1:=[_]) (L2:=[]) ((0,kE,(j:Int),0,()):Tok) rfl rfl rfl
 | true =>
 refine aD (fun h=>by cases h) (fun h=>?_)
 simp only [Bool.not_true,if_neg (show ¬ false=true by decide)]
 refine dv [] (fun _ h=>nomatch h) (fC (oU (jU (by repeat (first | exact mz | apply ms)) fun hl=>aD (fun h=>?_) (fun h=>?_))))
 ·have hj:j=b.size:=by have:(j:Int)=(sl.2.1:Int):=eq_of_beq h; omega
  simp only [if_pos hj]
  refine dv [] (fun _ h=>nomatch h) (fC (fC ?_))
  refine re (a6 (L1:=[(b4,aq ae (aO (0,kE,(j:Int),0,())))]) (L2:=[]) (l:=aO cf) (T:=ae) (T0:=ae) (c:=true) rfl (by kernel_rfl) rfl (Nat.le_of_ble_eq_true rfl) (by simp [Value.cells,Value.oneCell'])) ?_
  rintro _ _ _ ⟨rfl,rfl⟩
  refine ⟨(fun _ h=>nomatch h),?_⟩
  refine cY (t:=vo) (((10,kE,(j:Int),(j:Int),()):Tok),true,()) (((10,kE,(j:Int),(j:Int),()):Tok),true,()) rfl (fun r w F H hF hsp=>?_) fun F hF=>rfl
  exact lk (a:=⟨b1,0,none⟩) (T0:=ae) (l:=aO (10,kE,(j:Int),(j:Int),())) (vs:=aO (10,kE,(j:Int),(j:Int),())) (v:=.bool true) (by kernel_rfl) (hsp.own _ _ (List.mem_append_right _ (List.mem_cons_of_mem _ (List.mem_cons_self ..)))) rfl rfl
 ·have hj:¬ j=b.size:=by
   intro h'
   have:((j:Int)==(sl.2.1:Int))=true:=by rw [h',hl]; exact beq_self_eq_true _
   have h3:((j:Int)==(sl.2.1:Int))=false:=h
   rw [this] at h3; cases h3
  simp only [if_neg hj]
  have hjl:j < b.size:=by have:j≤b.size:=hle; omega
  refine dv [] (fun _ h=>nomatch h) (oU (fC (sk j (by repeat (first | exact mz | apply ms)) (by repeat (first | exact mz | apply ms)) rfl hjl ?_)))
  refine bW (qG _) (fun _ h=>nomatch h) ?_
  refine IE (δ:=Tok) (ts:=[]) (fun _=>()) (fun t=>[(b4,aq ae (aO t)),(b1,aq ae (aO cf))]) (f6 b) ?_ fun t st=>?_
  ·have hst:∀ (t:Tok) (st':dm),de b (a7 b j) ⟨j,st.opn⟩=some (t,st')→(match de b (a7 b j) ⟨j,st.opn⟩ with
    | none=>none
    | some (t,st')=>f6 b t st')=f6 b t st':=fun t st' h=>by rw [h]
   have hno:de b (a7 b j) ⟨j,st.opn⟩=none→(match de b (a7 b j) ⟨j,st.opn⟩ with
    | none=>none
    | some (t,st')=>f6 b t st')=none:=fun h=>by rw [h]
   have out0:∀ {md:cK} {Γ:List Fact} {st':dm} {run} (t:Tok),run=f6 b t st'→au PG (SI b sl pb) vo (pl aJ) (noLabel.set 0 (Ii [] (fun _=>()) (fun t=>[(b4,aq ae (aO t)),(b1,aq ae (aO cf))]) (f6 b))) md st' (.out 0 []) run [(b4,aq ae (aO t)),(b1,aq ae (aO cf))] Γ:=fun t h =>
    Jo t cn rfl rfl h
   refine aD (fun h1=>?_) (fun h1=>?_)
   ·have hs:de b (a7 b j) ⟨j,st.opn⟩=(sq b j).map fun t=>(t,⟨j,st.opn⟩):=by unfold de; rw [if_pos h1]
    refine fx (JH hb) (by simp) (fun h=>hno ?_) (fun e=>e.elim) fun x t st' h=>?_
    ·rw [hs]; simp only [u9] at h; cases h2:sq b j with
     | none=>rfl
     | some t=>rw [h2] at h; cases h
    ·simp only [u9] at h
     cases h2:sq b j with
     | none=>rw [h2] at h; cases h
     | some t2 =>
     rw [h2] at h
     simp only [Option.map_some,Option.some.injEq,Res.ok.injEq] at h
     obtain ⟨rfl,rfl⟩:=h
     refine br fun F hx=>?_
     obtain rfl:x=t2:=hx
     exact Ff x (out0 x (hst _ _ (by rw [hs,h2]; rfl)))
   ·have h1':dp (a7 b j)=false:=h1
    refine bW (pP _) (fun _ h=>nomatch h) (aD (fun h2=>?_) (fun h2=>?_))
    ·have hs:de b (a7 b j) ⟨j,st.opn⟩=(m3 b j).map fun t=>(t,⟨j,st.opn⟩):=by unfold de; rw [h1',if_neg (by decide),if_pos h2]
     refine fx (Fp hb) (by simp) (fun h=>hno ?_) (fun e=>e.elim) fun x t st' h=>?_
     ·rw [hs]; simp only [pF] at h; cases h2:m3 b j with
      | none=>rfl
      | some t=>rw [h2] at h; cases h
     ·simp only [pF] at h
      cases h2:m3 b j with
      | none=>rw [h2] at h; cases h
      | some t2 =>
      rw [h2] at h
      simp only [Option.map_some,Option.some.injEq,Res.ok.injEq] at h
      obtain ⟨rfl,rfl⟩:=h
      refine br fun F hx=>?_
      obtain rfl:x=t2:=hx
      exact Ff x (out0 x (hst _ _ (by rw [hs,h2]; rfl)))
    ·have h2':cz (a7 b j)=false:=h2
     have hs3:de b (a7 b j) ⟨j,st.opn⟩=(if (a7 b j==34)||(a7 b j==39) then none
      else if a7 b j==96 then none
      else if a7 b j==125&&st.opn.getLast?.getD false then none
      else sY b ⟨j,st.opn⟩):=by unfold de; rw [h1',h2',if_neg (by decide),if_neg (by decide)]
     refine g0 (fun x st'=>if st'=⟨j,st.opn⟩ then (if x.1=true then none else if x.1=(a7 b j==34||a7 b j==39) then (match de b (a7 b j) ⟨j,st.opn⟩ with
      | none=>none
      | some (t,st')=>f6 b t st') else none) else none) ?_ fun y2 st2=>?_
     ·have fin:∀ c:Bool,c=(a7 b j==34||a7 b j==39)→(match de b (a7 b j) ⟨j,st.opn⟩ with
       | none=>none
       | some (t,st')=>f6 b t st')=(if (⟨j,st.opn⟩:dm)=⟨j,st.opn⟩ then (if c=true then none else if c=(a7 b j==34||a7 b j==39) then (match de b (a7 b j) ⟨j,st.opn⟩ with
       | none=>none
       | some (t,st')=>f6 b t st') else none) else none):=fun c hc=>by
       rw [if_pos rfl]
       cases c with
       | false=>rw [if_neg (by decide),if_pos hc]
       | true=>rw [if_pos rfl]; exact hno (by rw [hs3,← hc]; rfl)
      refine aD (fun h3=>?_) (fun h3=>?_)
      ·exact dh (s':=fun (x:HC [.b .bool]) st'=>if st'=⟨j,st.opn⟩ then (if x.1=true then none else if x.1=(a7 b j==34||a7 b j==39) then (match de b (a7 b j) ⟨j,st.opn⟩ with
       | none=>none
       | some (t,st')=>f6 b t st') else none) else none) (true,()) cn rfl (fin true (by rw [show (a7 b j==34)=true from h3]; rfl))
      ·exact dh (s':=fun (x:HC [.b .bool]) st'=>if st'=⟨j,st.opn⟩ then (if x.1=true then none else if x.1=(a7 b j==34||a7 b j==39) then (match de b (a7 b j) ⟨j,st.opn⟩ with
       | none=>none
       | some (t,st')=>f6 b t st') else none) else none) ((a7 b j==39:Bool),()) cn rfl (fin _ (by rw [show (a7 b j==34)=false from h3]; rfl))
     ·obtain ⟨(c:Bool),⟨⟩⟩:=y2
      by_cases hs2:st2=⟨j,st.opn⟩
      case neg=>exact cq (if_neg hs2)
      subst hs2
      rw [if_pos rfl]
      refine aD (fun h3=>?_) (fun h3=>?_)
      ·exact cq (if_pos h3)
      obtain rfl:c=false:=h3
      by_cases hq:false=(a7 b j==34||a7 b j==39)
      case neg=>exact cq (by show (if false=true then none else if false=(a7 b j==34||a7 b j==39) then _ else none)=none; rw [if_neg (by decide),if_neg hq])
      show au _ _ _ _ _ _ _ _ (if false=true then none else if false=(a7 b j==34||a7 b j==39) then _ else none) _ _
      rw [if_neg (show ¬ false=true by decide),if_pos hq]
      rw [← hq,if_neg (show ¬ false=true by decide)] at hs3
      refine aD (fun h4=>?_) (fun h4=>?_)
      ·exact cq (hno (by rw [hs3,if_pos h4]))
      rw [show (a7 b j==96)=false from h4,if_neg (show ¬ false=true by decide)] at hs3
      refine g0 (fun x st'=>if st'=⟨j,st.opn⟩ then (if x.1=true then none else if x.1=(a7 b j==125&&st.opn.getLast?.getD false) then (match de b (a7 b j) ⟨j,st.opn⟩ with
       | none=>none
       | some (t,st')=>f6 b t st') else none) else none) ?_ fun y2 st2=>?_
      ·have fin:∀ c:Bool,c=(a7 b j==125&&st.opn.getLast?.getD false)→(match de b (a7 b j) ⟨j,st.opn⟩ with
        | none=>none
        | some (t,st')=>f6 b t st')=(if (⟨j,st.opn⟩:dm)=⟨j,st.opn⟩ then (if c=true then none else if c=(a7 b j==125&&st.opn.getLast?.getD false) then (match de b (a7 b j) ⟨j,st.opn⟩ with
        | none=>none
        | some (t,st')=>f6 b t st') else none) else none):=fun c hc=>by
        rw [if_pos rfl]
        cases c with
        | false=>rw [if_neg (by decide),if_pos hc]
        | true=>rw [if_pos rfl]; exact hno (by rw [hs3,← hc]; rfl)
       refine dv [] (fun _ h=>nomatch h) (aD (fun h5=>?_) (fun h5=>?_))
       ·refine IG (fun c hc=>?_) (fun hc=>?_)
        ·exact dh (s':=fun (x:HC [.b .bool]) st'=>if st'=⟨j,st.opn⟩ then (if x.1=true then none else if x.1=(a7 b j==125&&st.opn.getLast?.getD false) then (match de b (a7 b j) ⟨j,st.opn⟩ with
       | none=>none
       | some (t,st')=>f6 b t st') else none) else none) (c,()) cn rfl (fin c (by rw [show (a7 b j==125)=true from h5]; have hc':st.opn.getLast? = some c:=hc; rw [hc']; rfl))
        ·exact dh (s':=fun (x:HC [.b .bool]) st'=>if st'=⟨j,st.opn⟩ then (if x.1=true then none else if x.1=(a7 b j==125&&st.opn.getLast?.getD false) then (match de b (a7 b j) ⟨j,st.opn⟩ with
       | none=>none
       | some (t,st')=>f6 b t st') else none) else none) (false,()) cn rfl (fin false (by have hc':st.opn.getLast? = none:=hc; rw [hc']; simp))
       ·exact dh (s':=fun (x:HC [.b .bool]) st'=>if st'=⟨j,st.opn⟩ then (if x.1=true then none else if x.1=(a7 b j==125&&st.opn.getLast?.getD false) then (match de b (a7 b j) ⟨j,st.opn⟩ with
       | none=>none
       | some (t,st')=>f6 b t st') else none) else none) (false,()) cn rfl (fin false (by rw [show (a7 b j==125)=false from h5]; rfl))
      ·obtain ⟨(c:Bool),⟨⟩⟩:=y2
       by_cases hs2:st2=⟨j,st.opn⟩
       case neg=>exact cq (if_neg hs2)
       subst hs2
       rw [if_pos rfl]
       refine aD (fun h3=>?_) (fun h3=>?_)
       ·exact cq (if_pos h3)
       obtain rfl:c=false:=h3
       by_cases hq:false=(a7 b j==125&&st.opn.getLast?.getD false)
       case neg=>exact cq (by show (if false=true then none else if false=(a7 b j==125&&st.opn.getLast?.getD false) then _ else none)=none; rw [if_neg (by decide),if_neg hq])
       show au _ _ _ _ _ _ _ _ (if false=true then none else if false=(a7 b j==125&&st.opn.getLast?.getD false) then _ else none) _ _
       rw [if_neg (show ¬ false=true by decide),if_pos hq]
       rw [← hq,if_neg (show ¬ false=true by decide)] at hs3
       refine fx (JS hb) (by simp) (fun h=>hno ?_) (fun e=>e.elim) fun x t st' h=>?_
       ·rw [hs3]; simp only [vm,Ic] at h; cases h2:sY b ⟨j,st.opn⟩ with
        | none=>rfl
        | some t=>rw [h2] at h; cases h
       ·simp only [vm,Ic] at h
        cases h2:sY b ⟨j,st.opn⟩ with
        | none=>rw [h2] at h; cases h
        | some t2 =>
        rw [h2] at h
        simp only [Option.map_some,Option.some.injEq,Res.ok.injEq] at h
        obtain ⟨rfl,rfl⟩:=h
        refine br fun F hx=>?_
        have hx':x=t2.1:=hx
        subst hx'
        exact Ff t2.1 (out0 t2.1 (hst _ _ (by rw [hs3,h2])))
  ·have he:f6 b t st=(if t.kind==0 then some (.ok ((0,kE,(st.pos:Int),0,()),false,()) st) else if 0≤t.fin∧t.fin≤b.size then some (.ok (t,true,()) { st with pos:=t.fin.toNat }) else none):=by
    simp only [f6,G7]
    split
    ·rfl
    ·split<;>rfl
   rw [he]
   refine eL (b1:=.int .i64) t.kind (List.mem_cons_self ..) (by kernel_rfl) rfl rfl (aD (fun h1=>?_) (fun h1=>?_))
   ·rw [if_pos h1]
    refine lp ?_
    exact wX (L1:=[_]) (L2:=[]) ((0,kE,(st.pos:Int),0,()):Tok) rfl rfl rfl
   ·rw [show (t.kind==0)=false from h1,if_neg (show ¬ false=true by decide)]
    by_cases hf:0≤t.fin∧t.fin≤b.size
    case neg=>exact cq (if_neg hf)
    rw [if_pos hf]
    refine eL (b1:=.int .i64) t.fin (List.mem_cons_self ..) (by kernel_rfl) rfl rfl ?_
    refine A9 t.fin.toNat (by omega) (by omega) ?_
    refine m0 t (List.mem_cons_self ..) ?_
    exact wX (L1:=[_]) (L2:=[]) t rfl rfl rfl
end
end Go.Proofs.YtjlgcpgjdgeejaaGreatDoor
end

section
namespace Go.Proofs.YtjlgcpgjdgeejaaGreatDoor
open Go
set_option linter.unusedVariables false
set_option maxRecDepth 100000
noncomputable section
def mZ:An :=
 .s (.r [none]) (.s (.s (.r [none,some tB]) (.c (.s (.r [none]) (.x)) (.x))) (.s (.r [some ah,none,some ah,none]) (.x)))
def fe (a0_s:Option Addr × Nat × Nat):T :=
 .op (bT .eql aC (.slice a0_s.1 a0_s.2.1 a0_s.2.2) (.slice none 0 0)) tB fun r1 =>
 .ite r1 (
 .ret #[.v (.slice none 0 0)]) (
 .op (ar aC 0 #[]) ah fun r2 =>
 .op (dg #[aC,aC] aC #[.slice r2.1 r2.2.1 r2.2.2,.slice a0_s.1 a0_s.2.1 a0_s.2.2]) ah fun r3 =>
 .ret #[.v (.slice r3.1 r3.2.1 r3.2.2)])
theorem nM (a0_s:Option Addr × Nat × Nat):bh Tryz.prog Tryz.f69 mZ [.slice a0_s.1 a0_s.2.1 a0_s.2.2]=fe a0_s:=by kernel_rfl
theorem ny {ε σ β:Type} {I:av ε σ} {t:Ty} {s:Sp ε σ β} {Rel:β→t.den→al→Fact} {Γ:List Fact} (a0_s:Option Addr × Nat × Nat) (h:Sim Tryz.prog I t Rel noLabel none (fe a0_s) s [] Γ):MeetsO Tryz.prog I (aa e9 #[.slice a0_s.1 a0_s.2.1 a0_s.2.2]) t s Rel Γ :=
 aj (args:=[.slice a0_s.1 a0_s.2.1 a0_s.2.2]) Tryz.func69 rfl rfl (Nat.le_of_ble_eq_true rfl) (by rw [nM]; exact h)
def Dh:An :=
 .s (.r [some tA,none]) (.s (.r [some ah,some ah,some tU]) (.s (.r [none,none]) (.x)))
def qP (a0_b:Option Addr × Nat × Nat):T :=
 .op (cJ aC (.slice a0_b.1 a0_b.2.1 a0_b.2.2)) tA fun r1 =>
 .op (ai aC (.pointer (some r1))) ah fun r2 =>
 .op (aa e9 #[.slice r2.1 r2.2.1 r2.2.2]) ah fun r3 =>
 .op (aW aC (.pointer (some r1)) (.slice r3.1 r3.2.1 r3.2.2)) tU fun _ =>
 .ret #[.v (.func (.func fh) #[] #[.pointer (some r1)])]
theorem Et (a0_b:Option Addr × Nat × Nat):bh Tryz.prog Tryz.f43 Dh [.slice a0_b.1 a0_b.2.1 a0_b.2.2]=qP a0_b:=by kernel_rfl
theorem Es {ε σ β:Type} {I:av ε σ} {t:Ty} {s:Sp ε σ β} {Rel:β→t.den→al→Fact} {Γ:List Fact} (a0_b:Option Addr × Nat × Nat) (h:Sim Tryz.prog I t Rel noLabel none (qP a0_b) s [] Γ):MeetsO Tryz.prog I (aa qi #[.slice a0_b.1 a0_b.2.1 a0_b.2.2]) t s Rel Γ :=
 aj (args:=[.slice a0_b.1 a0_b.2.1 a0_b.2.2]) Tryz.func43 rfl rfl (Nat.le_of_ble_eq_true rfl) (by rw [Et]; exact h)
def zt:An :=
 .b (.s (.s (.r [some ah,none,none]) (.c (.s (.r [none,none,some tB]) (.x)) (.x))) (.s (.r [some ah,some tP,none]) (.s (.x) (.s (.r [none]) (.b (.l [(4,.b (.int .i64))] (.s (.b (.s (.r [none,some (.tup [.agg [.int .i64,.str,.int .i64,.int .i64],.b .bool]),none,none,none,some tA,some tU,none]) (.s (.b (.s (.r [none,none,none]) (.c (.s (.r [none,none,some tI,none,some tB]) (.x)) (.s (.j [(30,.b .bool)] (.r [none,none,none,none,some tI,none,none,none])) (.c (.s (.r [none,none,some tI,none,some tB]) (.x)) (.s (.r [none,some (.c (.agg [.int .i64,.str,.int .i64,.int .i64])),some tB,none,none,none,some tI,none,none,none]) (.c (.x) (.x)))))))) (.x)))) (.r [none,none,none]))))))))
def ni (a0_yield:Value) (a1_a1:Addr):T :=
 .op (ai aC (.pointer (some a1_a1))) ah fun r1 =>
 .ite (decide (((r1.2.1:Int):Int) > 65536)) (
 .op (aK a0_yield #[.agg #[.int .i64 0,.string kE,.int .i64 0,.int .i64 0],.int .i64 2]) tB fun r2 =>
 .ret #[]) (
 .op (ai aC (.pointer (some a1_a1))) ah fun r3 =>
 .op (aa nr #[.slice r3.1 r3.2.1 r3.2.2]) tP fun r4 =>
 .loop 0 [.b (.int .i64)] [.int .i64 0] fun x5 =>
 .op (aa kT #[.pointer r4]) (.tup [.agg [.int .i64,.str,.int .i64,.int .i64],.b .bool]) fun r6 =>
 .op (bj ae) tA fun r7 =>
 .op (aW ae (.pointer (some r7)) (.agg #[.int .i64 r6.1.1,.string r6.1.2.1,.int .i64 r6.1.2.2.1,.int .i64 r6.1.2.2.2.1])) tU fun _ =>
 .ite (!r6.2.1) (
 .op (ai ak (.pointer (some ⟨r7.block,r7.off+2,none⟩))) tI fun r9 =>
 .op (aK a0_yield #[.agg #[.int .i64 0,.string kE,.int .i64 r9,.int .i64 0],.int .i64 3]) tB fun r10 =>
 .ret #[]) (
 .join 1 [.b .bool] (
 .ite ((x5.1:Int)==8192) (
 .op (ai ak (.pointer (some r7))) tI fun r11 =>
 .out 1 [.bool ((r11:Int) != 10)]) (
 .out 1 [.bool false])) fun x12 =>
 .ite x12.1 (
 .op (ai ak (.pointer (some ⟨r7.block,r7.off+2,none⟩))) tI fun r13 =>
 .op (aK a0_yield #[.agg #[.int .i64 0,.string kE,.int .i64 r13,.int .i64 0],.int .i64 4]) tB fun r14 =>
 .ret #[]) (
 .op (ai ae (.pointer (some r7))) (.c (.agg [.int .i64,.str,.int .i64,.int .i64])) fun r15 =>
 .op (aK a0_yield #[.agg #[.int .i64 r15.1,.string r15.2.1,.int .i64 r15.2.2.1,.int .i64 r15.2.2.2.1],.int .i64 0]) tB fun r16 =>
 .ite (!r16) (
 .ret #[]) (
 .op (ai ak (.pointer (some r7))) tI fun r17 =>
 .ite ((r17:Int)==10) (
 .ret #[]) (
 .out 0 [.int .i64 (IntKind.i64.wrap (x5.1+1))])))))
theorem B1 (a0_yield:Value) (a1_a1:Addr):bh Tryz.prog Tryz.f70 zt [a0_yield,.pointer (some a1_a1)]=ni a0_yield a1_a1:=by kernel_rfl
theorem Bw {ε σ β:Type} {I:av ε σ} {t:Ty} {s:Sp ε σ β} {Rel:β→t.den→al→Fact} {Γ:List Fact} (a0_yield:Value) (a1_a1:Addr) (h:Sim Tryz.prog I t Rel noLabel none (ni a0_yield a1_a1) s [] Γ):MeetsO Tryz.prog I (aa fh #[a0_yield,.pointer (some a1_a1)]) t s Rel Γ :=
 aj (args:=[a0_yield,.pointer (some a1_a1)]) Tryz.func70 rfl rfl (Nat.le_of_ble_eq_true rfl) (by rw [B1]; exact h)
def CP:An :=
 .s (.r [none,none]) (.s (.r [none,none,none]) (.s (.s (.r [none,none,none]) (.b (.l [(6,.b (.int .i64)),(7,.b (.int .i64)),(8,.b (.int .i64)),(13,.b (.int .i64))] (.s (.r [none]) (.s (.c (.x) (.x)) (.s (.b (.s (.r [none,some tA,some (.c (.agg [.int .i64,.str,.int .i64,.int .i64])),some tA,none,some tU]) (.s (.r [none,some (.c (.agg [.int .i64,.str,.int .i64,.int .i64])),some tI,none,none,none]) (.s (.r [none,none,none,none]) (.s (.r [none,none,none,none,none,none,none]) (.c (.r [none,none]) (.x))))))) (.r [none,none]))))))) (.s (.r [none,none,none,none]) (.x))))
def oB (a0_l:Option Addr × Nat × Nat) (a1_most:Int):T :=
 .loop 0 [.b (.int .i64),.b (.int .i64),.b (.int .i64),.b (.int .i64)] [.int .i64 0,.int .i64 0,.int .i64 (-1),.int .i64 0] fun x1 =>
 .ite (decide ((x1.2.2.2.1:Int) < (a0_l.2.1:Int))) (
 .op (aR az (.slice a0_l.1 a0_l.2.1 a0_l.2.2) (.int .i64 x1.2.2.2.1)) tA fun r2 =>
 .op (ai ae (.pointer (some r2))) (.c (.agg [.int .i64,.str,.int .i64,.int .i64])) fun r3 =>
 .op (bj ae) tA fun r4 =>
 .op (aW ae (.pointer (some r4)) (.agg #[.int .i64 r3.1,.string r3.2.1,.int .i64 r3.2.2.1,.int .i64 r3.2.2.2.1])) tU fun _ =>
 .op (ai ae (.pointer (some r4))) (.c (.agg [.int .i64,.str,.int .i64,.int .i64])) fun r6 =>
 .op (aa lw #[.agg #[.int .i64 r6.1,.string r6.2.1,.int .i64 r6.2.2.1,.int .i64 r6.2.2.2.1]]) tI fun r7 =>
 .ite (decide ((if (IntKind.i64.wrap (x1.1+r7):Int) > 0 then IntKind.i64.wrap (x1.1+r7) else 0:Int) > a1_most)) (
 .ite (decide ((x1.2.2.1:Int) < 0)) (
 .out 0 [.int .i64 (if (IntKind.i64.wrap (x1.1+r7):Int) > 0 then IntKind.i64.wrap (x1.1+r7) else 0),.int .i64 (if (if (IntKind.i64.wrap (x1.1+r7):Int) > 0 then IntKind.i64.wrap (x1.1+r7) else 0:Int) > x1.2.1 then if (IntKind.i64.wrap (x1.1+r7):Int) > 0 then IntKind.i64.wrap (x1.1+r7) else 0 else x1.2.1),.int .i64 x1.2.2.2.1,.int .i64 (IntKind.i64.wrap (x1.2.2.2.1+1))]) (
 .out 0 [.int .i64 (if (IntKind.i64.wrap (x1.1+r7):Int) > 0 then IntKind.i64.wrap (x1.1+r7) else 0),.int .i64 (if (if (IntKind.i64.wrap (x1.1+r7):Int) > 0 then IntKind.i64.wrap (x1.1+r7) else 0:Int) > x1.2.1 then if (IntKind.i64.wrap (x1.1+r7):Int) > 0 then IntKind.i64.wrap (x1.1+r7) else 0 else x1.2.1),.int .i64 x1.2.2.1,.int .i64 (IntKind.i64.wrap (x1.2.2.2.1+1))])) (
 .out 0 [.int .i64 (if (IntKind.i64.wrap (x1.1+r7):Int) > 0 then IntKind.i64.wrap (x1.1+r7) else 0),.int .i64 (if (if (IntKind.i64.wrap (x1.1+r7):Int) > 0 then IntKind.i64.wrap (x1.1+r7) else 0:Int) > x1.2.1 then if (IntKind.i64.wrap (x1.1+r7):Int) > 0 then IntKind.i64.wrap (x1.1+r7) else 0 else x1.2.1),.int .i64 x1.2.2.1,.int .i64 (IntKind.i64.wrap (x1.2.2.2.1+1))])) (
 .ret #[.v (.int .i64 x1.2.1),.v (.int .i64 x1.2.2.1)])
theorem C1 (a0_l:Option Addr × Nat × Nat) (a1_most:Int):bh Tryz.prog Tryz.f49 CP [.slice a0_l.1 a0_l.2.1 a0_l.2.2,.int .i64 a1_most]=oB a0_l a1_most:=by kernel_rfl
theorem C6 {ε σ β:Type} {I:av ε σ} {t:Ty} {s:Sp ε σ β} {Rel:β→t.den→al→Fact} {Γ:List Fact} (a0_l:Option Addr × Nat × Nat) (a1_most:Int) (h:Sim Tryz.prog I t Rel noLabel none (oB a0_l a1_most) s [] Γ):MeetsO Tryz.prog I (aa oE #[.slice a0_l.1 a0_l.2.1 a0_l.2.2,.int .i64 a1_most]) t s Rel Γ :=
 aj (args:=[.slice a0_l.1 a0_l.2.1 a0_l.2.2,.int .i64 a1_most]) Tryz.func49 rfl rfl (Nat.le_of_ble_eq_true rfl) (by rw [C1]; exact h)
def wS:An :=
 .s (.r [some tA,none,none]) (.s (.r [none,some (.tup [.b .slice,.b (.int .i64),.b (.int .i64)]),none,none,none,none,none,none,none]) (.s (.s (.r [none,none]) (.c (.s (.r [none,none,none,some tU,none,none]) (.x)) (.x))) (.s (.s (.r [none,some (.tup [.b (.int .i64),.b (.int .i64)]),none,none,none,none,none]) (.s (.r [none,none]) (.c (.s (.d (.q 0 none (.q 1 none (.q 2 none (.q 3 (some tA) (.q 4 none (.q 5 (some tI) (.l 6 (some tU) (.q 7 none (.q 8 none (.e))))))))))) (.x)) (.x)))) (.s (.r [none,none,some (.tup [.agg [.slice],.b (.int .i64),.b .bool]),none,none,none,none,some tA,some tU,none,none]) (.s (.s (.r [none,none]) (.c (.s (.r [none,none,some tU,none,none]) (.x)) (.x))) (.s (.r [some (.c (.agg [.slice])),some tU,none,none]) (.x)))))))
def mN (a0_b:Option Addr × Nat × Nat) (a1_kind:Int):T :=
 .op (bj ap) tA fun r1 =>
 .op (aa nB #[.slice a0_b.1 a0_b.2.1 a0_b.2.2]) (.tup [.b .slice,.b (.int .i64),.b (.int .i64)]) fun r2 =>
 .ite ((r2.2.2.1:Int) != 0) (
 .op (aW ap (.pointer (some r1)) (.agg #[.slice none 0 0])) tU fun _ =>
 .ret #[.c (.pointer (some r1)) ap,.v (.int .i64 r2.2.1),.v (.int .i64 r2.2.2.1)]) (
 .op (aa oE #[.slice r2.1.1 r2.1.2.1 r2.1.2.2,.int .i64 64]) (.tup [.b (.int .i64),.b (.int .i64)]) fun r4 =>
 .ite (decide ((r4.2.1:Int)≥0)) (
 .draw <|
 .opq (aR az (.slice r2.1.1 r2.1.2.1 r2.1.2.2) (.int .i64 r4.2.1)) tA fun r5 =>
 .opq (ai ak (.pointer (some ⟨r5.block,r5.off+2,none⟩))) tI fun r6 =>
 .opl (aW ap (.pointer (some r1)) (.agg #[.slice none 0 0])) tU fun _ =>
 .ret #[.c (.pointer (some r1)) ap,.v (.int .i64 r6),.v (.int .i64 5)]) (
 .op (aa nY #[.slice r2.1.1 r2.1.2.1 r2.1.2.2,.int .i64 a1_kind]) (.tup [.agg [.slice],.b (.int .i64),.b .bool]) fun r8 =>
 .op (bj ap) tA fun r9 =>
 .op (aW ap (.pointer (some r9)) (.agg #[.slice r8.1.1.1 r8.1.1.2.1 r8.1.1.2.2])) tU fun _ =>
 .ite (!r8.2.2.1) (
 .op (aW ap (.pointer (some r1)) (.agg #[.slice none 0 0])) tU fun _ =>
 .ret #[.c (.pointer (some r1)) ap,.v (.int .i64 r8.2.1),.v (.int .i64 6)]) (
 .op (ai ap (.pointer (some r9))) (.c (.agg [.slice])) fun r12 =>
 .op (aW ap (.pointer (some r1)) (.agg #[.slice r12.1.1 r12.1.2.1 r12.1.2.2])) tU fun _ =>
 .ret #[.c (.pointer (some r1)) ap,.v (.int .i64 0),.v (.int .i64 0)])))
theorem zn (a0_b:Option Addr × Nat × Nat) (a1_kind:Int):bh Tryz.prog Tryz.f33 wS [.slice a0_b.1 a0_b.2.1 a0_b.2.2,.int .i64 a1_kind]=mN a0_b a1_kind:=by kernel_rfl
theorem zj {ε σ β:Type} {I:av ε σ} {t:Ty} {s:Sp ε σ β} {Rel:β→t.den→al→Fact} {Γ:List Fact} (a0_b:Option Addr × Nat × Nat) (a1_kind:Int) (h:Sim Tryz.prog I t Rel noLabel none (mN a0_b a1_kind) s [] Γ):MeetsO Tryz.prog I (aa jd #[.slice a0_b.1 a0_b.2.1 a0_b.2.2,.int .i64 a1_kind]) t s Rel Γ :=
 aj (args:=[.slice a0_b.1 a0_b.2.1 a0_b.2.2,.int .i64 a1_kind]) Tryz.func33 rfl rfl (Nat.le_of_ble_eq_true rfl) (by rw [zn]; exact h)
def ui:An :=
 .s (.r [some tA,none,none]) (.s (.r [none,some (.tup [.agg [.slice],.b (.int .i64),.b (.int .i64)]),none,none,none,some tU,none,none]) (.x))
def jI (a0_b:Option Addr × Nat × Nat):T :=
 .op (bj ap) tA fun r1 =>
 .op (aa jd #[.slice a0_b.1 a0_b.2.1 a0_b.2.2,.int .i64 0]) (.tup [.agg [.slice],.b (.int .i64),.b (.int .i64)]) fun r2 =>
 .op (aW ap (.pointer (some r1)) (.agg #[.slice r2.1.1.1 r2.1.1.2.1 r2.1.1.2.2])) tU fun _ =>
 .ret #[.c (.pointer (some r1)) ap,.v (.int .i64 r2.2.1),.v (.int .i64 r2.2.2.1)]
theorem v8 (a0_b:Option Addr × Nat × Nat):bh Tryz.prog Tryz.f16 ui [.slice a0_b.1 a0_b.2.1 a0_b.2.2]=jI a0_b:=by kernel_rfl
theorem uY {ε σ β:Type} {I:av ε σ} {t:Ty} {s:Sp ε σ β} {Rel:β→t.den→al→Fact} {Γ:List Fact} (a0_b:Option Addr × Nat × Nat) (h:Sim Tryz.prog I t Rel noLabel none (jI a0_b) s [] Γ):MeetsO Tryz.prog I (aa kd #[.slice a0_b.1 a0_b.2.1 a0_b.2.2]) t s Rel Γ :=
 aj (args:=[.slice a0_b.1 a0_b.2.1 a0_b.2.2]) Tryz.func16 rfl rfl (Nat.le_of_ble_eq_true rfl) (by rw [v8]; exact h)
def Aw:An :=
 .s (.r [some tA,none,none]) (.s (.r [none,some (.tup [.agg [.slice],.b (.int .i64),.b (.int .i64)]),none,none,none,some tU,none,none]) (.x))
def nJ (a0_b:Option Addr × Nat × Nat):T :=
 .op (bj ap) tA fun r1 =>
 .op (aa jd #[.slice a0_b.1 a0_b.2.1 a0_b.2.2,.int .i64 2]) (.tup [.agg [.slice],.b (.int .i64),.b (.int .i64)]) fun r2 =>
 .op (aW ap (.pointer (some r1)) (.agg #[.slice r2.1.1.1 r2.1.1.2.1 r2.1.1.2.2])) tU fun _ =>
 .ret #[.c (.pointer (some r1)) ap,.v (.int .i64 r2.2.1),.v (.int .i64 r2.2.2.1)]
theorem CS (a0_b:Option Addr × Nat × Nat):bh Tryz.prog Tryz.f24 Aw [.slice a0_b.1 a0_b.2.1 a0_b.2.2]=nJ a0_b:=by kernel_rfl
theorem Bk {ε σ β:Type} {I:av ε σ} {t:Ty} {s:Sp ε σ β} {Rel:β→t.den→al→Fact} {Γ:List Fact} (a0_b:Option Addr × Nat × Nat) (h:Sim Tryz.prog I t Rel noLabel none (nJ a0_b) s [] Γ):MeetsO Tryz.prog I (aa nA #[.slice a0_b.1 a0_b.2.1 a0_b.2.2]) t s Rel Γ :=
 aj (args:=[.slice a0_b.1 a0_b.2.1 a0_b.2.2]) Tryz.func24 rfl rfl (Nat.le_of_ble_eq_true rfl) (by rw [CS]; exact h)
end
end Go.Proofs.YtjlgcpgjdgeejaaGreatDoor
end

section
namespace Go.Proofs.YtjlgcpgjdgeejaaGreatDoor
open Go
set_option linter.unusedSimpArgs false
set_option linter.unusedVariables false
set_option linter.constructorNameAsVariable false
set_option maxRecDepth 100000
section
variable {ε σ β:Type} {P:Program} {I:av ε σ} {t:Ty} {Rel:β→t.den→al→Fact} {Δ:Labels ε σ β} {md:cK} {L:al} {Γ:List Fact} {st:σ} {run:Option (Res ε σ β)}
theorem ri {m:T}:∀ (K:al) {Γ:List Fact} {md:cK},(∀ Γ',(∀ A∈Γ,A∈Γ')→(∀ p∈K,Fact.at p.1 p.2∈Γ')→au P I t Rel Δ none st m run L Γ')→au P I t Rel Δ md st m run (K++L) Γ
 | [],Γ,md,h=>f0 (h Γ (fun A h=>h) (fun p h=>nomatch h))
 | p::K,Γ,md,h=>kF (ri K fun Γ' h1 h2=>h Γ' (fun A hA=>h1 A (List.mem_cons_of_mem _ hA)) fun q hq=>by
   rcases List.mem_cons.1 hq with rfl | hq
   ·exact h1 _ (List.mem_cons_self ..)
   ·exact h2 q hq)
end
theorem m2 (b:ByteArray):(rows dn b.data.toList).length=b.size:=by
 rw [ce ol]; simp
theorem C5 (b:ByteArray):∀ u∈rows dn b.data.toList,u.oneCell'=true:=by
 intro u hu
 simp only [rows,List.mem_flatMap] at hu
 obtain ⟨x,_,hx⟩:=hu
 simp only [dn,List.mem_singleton] at hx
 subst hx; rfl
def OwnB (b:ByteArray) (x:aI) (K:al):Fact:=Fact.prop (Buf aP 1 x (rows dn b.data.toList) K)
theorem OwnB.byF {b:ByteArray} {x:aI} {K:al} {F:Heap} (h:Buf aP 1 x (rows dn b.data.toList) K) (hK:∀ p∈K,F p.1=some p.2):(ByF x b).p F:=by
 have hlen:x.2.1=b.size:=by have h1:=Buf.len h; rw [m2] at h1; omega
 rcases h with ⟨_,rfl,h3⟩ | ⟨g,cells,rfl,h2,h3,h4,h5,h6,h7⟩
 ·exact ⟨hlen,Nat.le_refl _,.inl hlen.symm⟩
 ·refine ⟨hlen,h4,.inr ⟨⟨g,0,none⟩,cells.toArray,aP,(0,0),h2,rfl,hK _ (List.mem_cons_self ..),fun i hi=>?_⟩⟩
  have h8:=m9 ol b.data.toList i b[i] (EW b i hi)
  rw [← h7,List.drop_take,List.take_take] at h8
  have h9:((cells.drop (i * 1)).take (min 1 (x.2.1 * 1 - i * 1)))[0]? = (dn b[i])[0]?:=by rw [h8]
  rw [List.getElem?_take,if_pos (by omega),List.getElem?_drop] at h9
  simpa [dn] using h9
theorem EO (w:World):(ar aC 0 #[]).run PG w=.ok (.value (.slice (some ⟨w.heap.size,0,none⟩) 0 0)) (w.alloc (aq aP [])):=by
 have h1:PG.underlying aC=some (.slice aP):=by kernel_rfl
 have h2:ci PG aP=some (false,1):=by kernel_rfl
 simp only [ar,cj,Instr.buildSlice,run_underlying h1,(dk h2).2,Sem.run_bind,Result.andThen_ok,Sem.run_pure]
 have h0:Array.range 0=#[]:=rfl
 simp [newRow,aq,Instr.fill,h0]
theorem IH {ε:Type} (sl:aI) (b:ByteArray) (hb:b.size≤17179869184):MeetsO PG (I0:av ε Unit) (aa e9 #[.slice sl.1 sl.2.1 sl.2.2]) ah (Pure.pure ():Sp ε Unit Unit) (fun _ x K=>OwnB b x K) [ByF sl b]:=by
 refine ny sl (bc fun st=>?_)
 unfold fe
 have h1:PG.underlying aC=some (.slice aP):=by kernel_rfl
 refine cd (t1:=tB) sl.1.isNone (PVal.pure fun w=>?_) (aD (fun h=>?_) (fun h=>?_))
 ·simp [bT,cj,eqGuard,binOp,run_equal_slice_nil w aC aP sl.1 sl.2.1 sl.2.2 h1]
  rfl
 ·refine dd (φ:=rows dn b.data.toList=[]) (fun F hF=>?_) fun h0=>?_
  ·obtain ⟨_,_,hs⟩:=hF (ByF sl b) (by repeat (first | exact mz | apply ms))
   rcases hs with hs | ⟨a,_,_,_,ha,_⟩
   ·exact List.eq_nil_of_length_eq_zero (by rw [m2]; exact hs)
   ·have:sl.1.isNone=true:=h
    rw [ha] at this; cases this
  ·exact nO () [] (none,0,0) (List.nil_sublist _) rfl (fun r w F H _ _=>by rw [dj]; rfl) fun F hF=>.inl ⟨rfl,rfl,h0⟩
 ·have hs:∃ a,sl.1=some a:=by
   have:sl.1.isNone=false:=h
   cases ha:sl.1 with
   | none=>rw [ha] at this; cases this
   | some a=>exact ⟨a,rfl⟩
  obtain ⟨a,ha⟩:=hs
  refine bY (post:=fun y L' Γ'=>∃ g,y=(some ⟨g,0,none⟩,0,0)∧L'=[(g,aq aP [])]∧Γ'=[ByF sl b]) (Loc.val fun r w F H hF hsp=>⟨(some ⟨w.heap.size,0,none⟩,0,0),_,_,_,F,.inl (EO w),Heap.le.refl F,hF,(hsp.new _).perm (List.perm_middle),w.heap.size,rfl,rfl,rfl⟩) ?_
  rintro _ _ _ ⟨g,rfl,rfl,rfl⟩
  have hB0:Buf aP 1 (some ⟨g,0,none⟩,0,0) [] [(g,aq aP [])]:=.inr ⟨g,[],rfl,rfl,rfl,Nat.le_refl _,Nat.zero_le _,rfl,rfl⟩
  refine jU (by repeat (first | exact mz | apply ms)) fun hl=>?_
  by_cases hz:b.size=0
  ·have h0:rows dn b.data.toList=[]:=List.eq_nil_of_length_eq_zero (by rw [m2]; exact hz)
   refine cd (t1:=ah) ((some ⟨g,0,none⟩,0,0):aI) (PVal.pure fun w=>?_) ?_
   ·have h2:ci PG aP=some (false,1):=by kernel_rfl
    show (dg #[aC,aC] aC #[.slice (some ⟨g,0,none⟩) 0 0,.slice sl.1 sl.2.1 sl.2.2]).run PG w=_
    rw [hl,hz,ha]
    simp [dg,cj,Builtin.append_,run_underlying h1,(dk h2).2,Builtin.lenOf,Builtin.firstCells,storeCells,loadCells]
    rfl
   ·exact nO () [(g,aq aP [])] ((some ⟨g,0,none⟩,0,0):aI) (List.Sublist.refl _) rfl (fun r w F H _ _=>by rw [dj]; rfl) fun F hF=>by show Buf _ _ _ _ _; rw [h0]; exact hB0
  ·refine dd (φ:=a.spot=none) (fun F hF=>by
    obtain ⟨a',h1,h2⟩:=ByF.addr (hF (ByF sl b) (by repeat (first | exact mz | apply ms))) (by omega)
    rw [ha] at h1; cases h1; exact h2) fun hsp'=>?_
   refine f0 ?_
   ·rw [hl,ha]
    refine bY (tw (L0:=[]) (K:=[(g,aq aP [])]) (x:=(some ⟨g,0,none⟩,0,0)) (xs:=[]) (size:=1) (bytes:=1) (e:=aP) (m:=b.size) (a:=a) (news:=rows dn b.data.toList) (by kernel_rfl) rfl hB0 (fun r w F H hF hsp j u hj=>?_) (by rw [m2,Nat.mul_one]) (by omega) (C5 b) (by simp; omega) (by simp; omega)) ?_
    ·have hjl:j < b.size:=by
      rcases Nat.lt_or_ge j b.size with h | h
      ·exact h
      ·rw [List.getElem?_eq_none (by rw [m2]; exact h)] at hj; cases hj
     have hB:=ByF.bytes (hF (ByF sl b) (by repeat (first | exact mz | apply ms))) ha hsp.stab j hjl
     have h8:=m9 ol b.data.toList j b[j] (EW b j hjl)
     have h9:(((rows dn b.data.toList).drop (j * 1)).take 1)[0]? = (dn b[j])[0]?:=by rw [h8]
     rw [List.getElem?_take,if_pos (by decide),List.getElem?_drop,Nat.mul_one,Nat.add_zero,hj] at h9
     obtain rfl:u=.int .u8 (b[j].toNat:Int):=by simpa [dn] using h9
     obtain ⟨x1,x2,x3⟩:=dx a hsp' j
     rw [← hB]
     cases hh:a.add j with
     | mk p o sp=>rw [hh] at x1 x2 x3; simp only at x1 x2 x3; subst x1; subst x2; subst x3; rfl
    rintro x _ _ ⟨K',rfl,rfl,hx,hb'⟩
    refine nO () K' x (by simp) rfl (fun r w F H _ _=>by rw [dj]; rfl) fun F hF=>?_
    show Buf aP 1 x (rows dn b.data.toList) K'
    simpa using hb'
def HV (b:ByteArray) (v:Value):Fact:=Fact.ex fun bb:Nat=>Fact.ex fun sl:aI=>(Fact.prop (v=.func (.func fh) #[] #[.pointer (some ⟨bb,0,none⟩)])).both ((Fact.at bb (aq aC [.slice sl.1 sl.2.1 sl.2.2])).both (ByF sl b))
theorem GD {ε:Type} (sl:aI) (b:ByteArray) (hb:b.size≤17179869184):Meets PG (I0:av ε Unit) (aa qi #[.slice sl.1 sl.2.1 sl.2.2]) tV (Pure.pure ():Sp ε Unit Unit) (fun _ v=>HV b v) [ByF sl b]:=by
 refine Es sl (bc fun st=>?_)
 unfold qP
 refine bY (nd _) ?_
 rintro _ _ _ ⟨bb,rfl,rfl,rfl⟩
 refine eL (b1:=.slice) sl (List.mem_cons_self ..) (by kernel_rfl) rfl rfl ?_
 refine i1 (IH sl b hb) (by simp) fun x K=>?_
 refine bY (a6 (L1:=K) (L2:=[]) (l:=[.slice sl.1 sl.2.1 sl.2.2]) (T:=aC) (T0:=aC) (c:=false) rfl (by kernel_rfl) rfl (Nat.le_of_ble_eq_true rfl) (by simp [Value.cells,Value.oneCell'])) ?_
 rintro _ _ _ ⟨rfl,rfl⟩
 refine br fun F0 hB=>?_
 have hB':Buf aP 1 x (rows dn b.data.toList) K:=hB
 refine Gj (L':=K++[(bb,aq aC [.slice x.1 x.2.1 x.2.2])]) (List.Perm.refl _) (ri K fun Γ' h1 h2=>kF ?_)
 refine cY (t:=tV) () (Value.func (.func fh) #[] #[.pointer (some ⟨bb,0,none⟩)]) rfl (fun r w F H _ _=>by rw [dj]; rfl) fun F hF=>?_
 exact ⟨bb,x,rfl,hF _ (by repeat (first | exact mz | apply ms)),OwnB.byF hB' fun p hp=>hF _ (List.mem_cons_of_mem _ (h2 p hp))⟩
def Ja (sl:aI) (x:Option Addr) (K:al):Fact:=Fact.ex fun pb:Nat=>Fact.prop (x=some ⟨pb,0,none⟩∧K=[(pb,aq bX (dU sl 0 (none,0,0)))])
theorem IQ {ε:Type} (sl:aI):MeetsO PG (I0:av ε Unit) (aa nr #[.slice sl.1 sl.2.1 sl.2.2]) tP (Pure.pure ():Sp ε Unit Unit) (fun _ x K=>Ja sl x K) []:=by
 refine BO sl (bc fun st=>?_)
 unfold nC
 refine bY (nd _) ?_
 rintro _ _ _ ⟨pb,rfl,rfl,rfl⟩
 exact nO () [(pb,aq bX (dU sl 0 (none,0,0)))] (some ⟨pb,0,none⟩) (List.Sublist.refl _) rfl (fun r w F H _ _=>by rw [dj]; rfl) fun F hF=>⟨pb,rfl,rfl⟩
theorem IL {σ:Type} (I:av Empty σ) (b:ByteArray) (sl:aI) (bb:Nat) (yv:Value) (yS:Tok→Int→Sp Empty σ Bool) (Γ0:List Fact)
  (hy:∀ (t:Tok) (e:Int),Meets PG I (aK yv #[.agg #[.int .i64 t.1,.string t.2.1,.int .i64 t.2.2.1,.int .i64 t.2.2.2.1],.int .i64 e]) tB (yS t e) aJ Γ0) :
  Meets PG I (aa fh #[yv,.pointer (some ⟨bb,0,none⟩)]) tU (kD yS b) (fun _ _=>Fact.prop True) (Fact.at bb (aq aC [.slice sl.1 sl.2.1 sl.2.2])::ByF sl b::MxF::Γ0):=by
 have bindN:∀ {α β:Type} {x:Sp Empty σ α} {f:α→Sp Empty σ β} {st:σ},x st=none→(x>>=f) st=none:=fun h=>by
  show Sp.bind _ _ _=none
  unfold Sp.bind; rw [h]
 have bindO:∀ {α β:Type} {x:Sp Empty σ α} {f:α→Sp Empty σ β} {st st':σ} {a:α},x st=some (.ok a st')→(x>>=f) st=f a st':=fun h=>by
  show Sp.bind _ _ _=_
  unfold Sp.bind; rw [h]
 refine Bw yv ⟨bb,0,none⟩ (bc fun st=>?_)
 unfold ni
 have ldB:∀ {L:al} {Γ:List Fact} {st:σ} {k:aI→T} {run} {Δ:Labels Empty σ Unit} {Rel:Unit→tU.den→al→Fact},Fact.at bb (aq aC [.slice sl.1 sl.2.1 sl.2.2])∈Γ→au PG I tU Rel Δ none st (k sl) run L Γ→au PG I tU Rel Δ none st (.op (ai aC (.pointer (some ⟨bb,0,none⟩))) ah k) run L Γ:=fun hm hk=>by
  refine bY (cN (b1:=.slice) sl (Rd.at hm) (by kernel_rfl) rfl rfl) ?_
  rintro _ _ _ ⟨rfl,rfl,rfl⟩
  exact hk
 refine ldB (by repeat (first | exact mz | apply ms)) (jU (b:=b) (by repeat (first | exact mz | apply ms)) fun hl=>aD (fun h=>?_) (fun h=>?_))
 ·have hgt:b.size > 65536:=by have:=of_decide_eq_true h; omega
  have hrun:kD yS b st=(yS cf 2>>=fun _=>Pure.pure ()) st:=by unfold kD; rw [if_pos hgt]
  rw [hrun]
  refine fx (hy cf 2) (fun A hA=>by repeat (first | exact hA | apply List.mem_cons_of_mem)) (fun h=>bindN h) (fun e=>e.elim) fun x c st' h=>?_
  rw [bindO h]
  exact cY (t:=tU) () () rfl (fun r w F H _ _=>by rw [fJ]; rfl) fun F hF=>trivial
 ·have hle:b.size≤65536:=by have:=of_decide_eq_false h; omega
  have hrun:kD yS b st=fY yS b 8194 0 ⟨0,[]⟩ st:=by unfold kD; rw [if_neg (by omega)]
  rw [hrun]
  refine ldB (by repeat (first | exact mz | apply ms)) ?_
  refine i1 (IQ sl) (fun _ h=>nomatch h) fun x K=>GP fun pb=>br fun F0 hx=>?_
  obtain ⟨rfl,rfl⟩:=hx
  refine sZ (δ:=Nat × dm) (fun d=>((d.1:Int),())) (fun d L'=>(Fact.prop (d.1≤8192)).both ((SI b sl pb).inv d.2 L')) (fun f d=>fY yS b f d.1 d.2) 8194 (0,⟨0,[]⟩) rfl rfl (fun d st=>rfl) (fun F hF=>⟨Nat.zero_le _,(none,0,0),[],rfl,Buf.nil _ _,Nat.zero_le _⟩) ?_
  rintro f ⟨n,s⟩ L' st
  refine kg (br fun F1 hn=>?_)
  have hn:n≤8192:=hn
  have hdef:∀ st,fY yS b (f+1) n s st=(match sV b s with
   | none=>none
   | some ((t,ok),s') =>
    if !ok then (yS ⟨0,kE,t.pos,0,()⟩ 3>>=fun _=>Pure.pure ()) st
    else if n==8192&&t.kind != 10 then (yS ⟨0,kE,t.pos,0,()⟩ 4>>=fun _=>Pure.pure ()) st
    else (yS t 0>>=fun c=>if !c then Pure.pure () else if t.kind==10 then Pure.pure () else fY yS b f (n+1) s') st):=fun st=>rfl
  show au _ _ _ _ _ _ _ _ (fY yS b (f+1) n s st) _ _
  refine Gj (L':=L'++[]) (by rw [List.append_nil]) (KM (I2:=SI b sl pb) (st2:=s) (L0:=[]) (Jm (sl:=sl) (pb:=pb) hle) (by simp) (fun F hF=>hF _ (List.mem_cons_self ..)) (fun h=>?_) (fun e=>e.elim) fun x c s2 H2 h=>?_)
  ·cases h2:sV b s with
   | none=>rw [hdef,h2]
   | some y=>simp only [sM,h2] at h; cases h
  cases h2:sV b s with
  | none=>simp only [sM,h2] at h; cases h
  | some y =>
  obtain ⟨⟨t,ok⟩,s'⟩:=y
  simp only [sM,h2,Option.map_some,Gi,Option.some.injEq,Res.ok.injEq] at h
  obtain ⟨rfl,rfl⟩:=h
  simp only [h2] at hdef
  refine vq (A:=(SI b sl pb).inv s' H2) (fun F hF=>hF _ (List.mem_cons_self ..)) (dd (φ:=x=(t,ok,())) (fun F hF=>hF _ (List.mem_cons_of_mem _ (List.mem_cons_of_mem _ (List.mem_cons_self ..)))) fun hx=>?_)
  subst hx
  rw [List.append_nil]
  refine si t fun b7=>?_
  have tail:∀ {Δ:Labels Empty σ Unit} {L:al} {Γ:List Fact} {st:σ} (t':Tok) (e:Int),(∀ A∈Γ0,A∈Γ)→au PG I tU (pl fun _ _=>Fact.prop True) Δ none st (.op (aK yv #[.agg #[.int .i64 t'.1,.string t'.2.1,.int .i64 t'.2.2.1,.int .i64 t'.2.2.2.1],.int .i64 e]) tB fun _=>.ret #[]) ((yS t' e>>=fun _=>Pure.pure ()) st) L Γ:=fun t' e hΓ =>
   fx (hy t' e) hΓ (fun h=>bindN h) (fun e=>e.elim) fun x c st' h=>by
    rw [bindO h]
    exact cY (t:=tU) () () rfl (fun r w F H _ _=>by rw [fJ]; rfl) fun F hF=>trivial
  have hGm:∀ {Γ:List Fact},(∀ A∈(Fact.at bb (aq aC [.slice sl.1 sl.2.1 sl.2.2])::ByF sl b::MxF::Γ0),A∈Γ)→∀ A∈Γ0,A∈Γ:=fun h A hA=>h A (List.mem_cons_of_mem _ (List.mem_cons_of_mem _ (List.mem_cons_of_mem _ hA)))
  cases ok with
  | false =>
   refine aD (fun _=>?_) (fun h=>by cases h)
   refine eL (b1:=.int .i64) t.pos (List.mem_cons_self ..) (by kernel_rfl) rfl rfl ?_
   rw [hdef,if_pos (show (!false)=true from rfl)]
   exact tail (0,kE,t.pos,0,()) 3 (fun A hA=>by repeat (first | exact hA | apply List.mem_cons_of_mem))
  | true =>
  refine aD (fun h=>by cases h) (fun _=>?_)
  have hdef:∀ st,fY yS b (f+1) n s st=if n==8192&&t.kind != 10 then (yS ⟨0,kE,t.pos,0,()⟩ 4>>=fun _=>Pure.pure ()) st
    else (yS t 0>>=fun c=>if !c then Pure.pure () else if t.kind==10 then Pure.pure () else fY yS b f (n+1) s') st:=fun st=>by
   rw [hdef,if_neg (by decide)]
  refine g0 (fun x st=>if x.1=(n==8192&&t.kind != 10) then fY yS b (f+1) n s st else none) ?_ fun y st2=>?_
  ·refine aD (fun h=>?_) (fun h=>?_)
   ·have hn8:(n==8192)=true:=by have h3:(n:Int)=8192:=eq_of_beq h; exact beq_iff_eq.2 (by omega)
    refine eL (b1:=.int .i64) t.kind (List.mem_cons_self ..) (by kernel_rfl) rfl rfl ?_
    exact dh (s':=fun (x:HC [.b .bool]) st=>if x.1=(n==8192&&t.kind != 10) then fY yS b (f+1) n s st else none) ((t.kind != 10:Bool),()) cn rfl (by rw [if_pos (by rw [hn8,Bool.true_and])])
   ·have hn8:(n==8192)=false:=by
     have h3:¬ (n:Int)=8192:=fun h3=>by have h4:((n:Int)==8192)=false:=h; rw [h3] at h4; cases h4
     exact beq_eq_false_iff_ne.2 (by omega)
    exact dh (s':=fun (x:HC [.b .bool]) st=>if x.1=(n==8192&&t.kind != 10) then fY yS b (f+1) n s st else none) (false,()) cn rfl (by rw [if_pos (by rw [hn8,Bool.false_and])])
  ·obtain ⟨(c:Bool),⟨⟩⟩:=y
   by_cases hc:c=(n==8192&&t.kind != 10)
   case neg=>exact cq (if_neg hc)
   show au _ _ _ _ _ _ _ _ (if c=(n==8192&&t.kind != 10) then _ else none) _ _
   rw [if_pos hc,hdef,← hc]
   refine aD (fun h=>?_) (fun h=>?_)
   ·rw [if_pos h]
    refine eL (b1:=.int .i64) t.pos (List.mem_cons_self ..) (by kernel_rfl) rfl rfl ?_
    exact tail (0,kE,t.pos,0,()) 4 (fun A hA=>by repeat (first | exact hA | apply List.mem_cons_of_mem))
   ·obtain rfl:c=false:=h
    rw [if_neg (show ¬ false=true by decide)]
    refine m0 t (List.mem_cons_self ..) ?_
    refine fx (hy t 0) (fun A hA=>by repeat (first | exact hA | apply List.mem_cons_of_mem)) (fun h=>bindN h) (fun e=>e.elim) fun x c2 st' h2=>?_
    rw [bindO h2]
    refine br fun F2 hx=>?_
    obtain rfl:c2=x:=(show x=c2 from hx).symm
    cases c2 with
    | false =>
     refine aD (fun _=>?_) (fun h=>by cases h)
     exact cY (t:=tU) () () rfl (fun r w F H _ _=>by rw [fJ]; rfl) fun F hF=>trivial
    | true =>
    refine aD (fun h=>by cases h) (fun _=>?_)
    refine eL (b1:=.int .i64) t.kind (List.mem_cons_self ..) (by kernel_rfl) rfl rfl (aD (fun h=>?_) (fun h=>?_))
    ·have hk:(t.kind==10)=true:=h
     refine cY (t:=tU) () () ?_ (fun r w F H _ _=>by rw [fJ]; rfl) fun F hF=>trivial
     show (if (!true)=true then _ else if (t.kind==10)=true then _ else _:Sp Empty σ Unit) st'=_
     rw [if_neg (by decide),if_pos hk]; rfl
    ·have hk:(t.kind==10)=false:=h
     have hn2:n+1≤8192:=by
      have:(n==8192)=false:=by
       cases h8:(n==8192) with
       | false=>rfl
       | true=>rw [h8] at hc; simp only [bne,hk,Bool.not_false,Bool.and_self] at hc; cases hc
      have:=beq_eq_false_iff_ne.1 this
      omega
     refine vH (List.sublist_cons_self ..) ?_
     refine sO (l:=0) (n:=f) (ts:=[.b (.int .i64)]) (f:=fun d:Nat × dm=>(((d.1:Int),()):HC [.b (.int .i64)])) (J:=fun d L'=>(Fact.prop (d.1≤8192)).both ((SI b sl pb).inv d.2 L')) (sp:=fun f d=>fY yS b f d.1 d.2) (n+1,s') cn ?_ ?_ fun F hF=>⟨hn2,?_⟩
     ·rw [aS (by omega) (by omega)]; rfl
     ·show (if (!true)=true then _ else if (t.kind==10)=true then _ else _:Sp Empty σ Unit) st'=_
      rw [if_neg (by decide),if_neg (by rw [hk]; decide)]
     ·exact hF ((SI b sl pb).inv s' H2) (by repeat (first | exact mz | apply ms))
end Go.Proofs.YtjlgcpgjdgeejaaGreatDoor
end

section
namespace Go.Proofs.YtjlgcpgjdgeejaaGreatDoor
open Go
set_option linter.unusedSimpArgs false
set_option linter.unusedVariables false
set_option linter.constructorNameAsVariable false
set_option maxRecDepth 100000
section
variable {ε σ β:Type} {P:Program} {I:av ε σ} {t:Ty} {Rel:β→t.den→al→Fact} {Δ:Labels ε σ β} {md:cK} {L Lq:al} {Γ Γq:List Fact} {st:σ} {run:Option (Res ε σ β)}
def u7 (ts:List C) {δ:Type} (f:δ→HC ts) (J:δ→al→Fact) (sp:δ→Sp ε σ β):Label ε σ β:={ ι:=δ,sp:=sp,J:=fun d vs L'=>(Fact.prop (vs=HC.enc ts (f d))).both (J d L') }
theorem eo {δ:Type} {l:Nat} {ts:List C} {m:T} {k:HC ts→T} (f:δ→HC ts) (J:δ→al→Fact) (s':δ→Sp ε σ β) (hm:au P I t Rel (Δ.set l (u7 ts f J s')) md st m run L Γ)
  (hk:∀ d L' st,au P I t Rel Δ none st (k (f d)) (s' d st) L' (J d L'::Γ)):au P I t Rel Δ md st (.join l ts m k) run L Γ:=by
 intro H r w F res S hs hΓ hsp hq
 simp only [T.wp]
 refine T.wp_mono m ?_ (fun e w h=>h) (hm H r w F res S hs hΓ hsp hq)
 intro l' vs w' h
 unfold Labels.set at h
 unfold Outs.set
 split
 ·rename_i hl
  rw [if_pos hl] at h
  obtain ⟨i,L',F',H',st',hle,hsp',⟨hv,hJ⟩,hi',hS'⟩:=h
  have hv':vs=HC.enc ts (f i):=hv
  subst hv'
  exact ⟨f i,rfl,dI hle (hk i L' st' H' r w' F' res S hsp' (Holds.cons hi' (Holds.cons hJ (Holds.mono (fun A hA=>hΓ A (List.mem_cons_of_mem _ hA)) hle))) hS' trivial)⟩
 ·rename_i hl; rw [if_neg hl] at h; exact h
theorem fy {δ:Type} {l:Nat} {vs:List Value} {ts:List C} {f:δ→HC ts} {J:δ→al→Fact} {s':δ→Sp ε σ β} (d:δ) (hx:Δ l=u7 ts f J s') (hv:vs=HC.enc ts (f d)) (hrun:run=s' d st) (hJ:∀ F,Holds Γ F→(J d L).p F):au P I t Rel Δ md st (.out l vs) run L Γ :=
 rL (x:=u7 ts f J s') d hx hrun fun F hF=>⟨hv,hJ F hF⟩
theorem sN {β1:Type} {t1:Ty} {s0:Sem Next} {k:t1.den→T} {b0:β1} {Rel1:β1→t1.den→al→Fact} {Γ1:List Fact} (hm:MeetsO P (I0:av ε Unit) s0 t1 (Pure.pure b0:Sp ε Unit β1) Rel1 Γ1) (hΓ1:∀ A∈Γ1,A∈Γ) (hL:∀ p∈Lq,p∈L)
  (hk:∀ x K,au P I t Rel Δ (some (Γq,Lq)) st (k x) run (K++L) (Rel1 b0 x K::Γ)):au P I t Rel Δ (some (Γq,Lq)) st (.opl s0 t1 k) run L Γ:=by
 intro H r w F res S hs hF hsp hq
 simp only [T.wp]
 have hΓ':Holds Γ F:=fun A hA=>hF A (List.mem_cons_of_mem _ hA)
 have h0:Split r w ([]++(H++L)) F:=hsp
 refine bJ ?_ ?_ _ (hm (Split.give r (H++L)) w F [] () (.ok b0 ()) rfl (fun A hA=>hΓ' A (hΓ1 A hA)) rfl h0.out)
 ·rintro v w' ⟨F',hle,H',K1,x,hv,hinv,hS,hR⟩
  cases hv
  have hH:H'=[]:=hinv
  subst hH
  have hS':Split r w' (H++(K1++L)) F':=(Split.back h0 hS).perm (by
   simp only [List.nil_append]
   rw [← List.append_assoc,← List.append_assoc]
   exact List.perm_append_comm.append_right L)
  obtain ⟨hw,hq'⟩:=Stab.keep (H':=[]) (L':=H++(K1++L)) hq hle hS' (fun p hp=>by
   rcases List.mem_append.1 hp with hp | hp
   ·exact List.mem_append_left _ hp
   ·exact List.mem_append_right _ (List.mem_append_right _ (hL p hp)))
  exact ⟨hw,x,rfl,dI hle (hk x K1 H r w' F' res S hs (Holds.cons ((I.inv st H).mono _ _ hle (hF _ (List.mem_cons_self ..))) (Holds.cons hR (hΓ'.mono hle))) hS' hq')⟩
 ·rintro c w' ⟨F',hle,H',K1,x,hv,_⟩; cases hv
end
theorem rP {a:Addr} (h:a.spot=none) (i:Nat):(a.add i).block=(a.add i).block∧(a.add i).off=(a.add i).off+0∧(a.add i).spot=none:=⟨rfl,rfl,(dx a h i).2.2⟩
end Go.Proofs.YtjlgcpgjdgeejaaGreatDoor
end

section
namespace Go.Proofs.YtjlgcpgjdgeejaaGreatDoor
open Go
set_option linter.unusedSimpArgs false
set_option linter.unusedVariables false
set_option linter.constructorNameAsVariable false
set_option maxRecDepth 100000
def Fc (R:aY):Nat→N→PM N
 | 0,_=>Sp.stop
 | k+1,n=>do
  let t ← cg
  cond (t.kind != 10) (do let x ← R.statement; Fc R k (n.push x)) (pure n)
def A7 (R:aY) (whole:Int):PM N:=cond (whole==0) (Fc R R.fuel (bw 3 kE 0 0 [])) (cond (whole==1) R.expr R.typed)
def xJ (R:aY) (whole:Int):PM N:=do
 let n ← A7 R whole
 let t ← cg
 cond (t.kind != 10) cD (pure n)
def n4 (l:List Tok):PSt:=⟨l,0,cf,false⟩
def qa (fuel:Nat) (l:List Tok) (whole:Int):Option (Sum Int (List FN)):=match xJ (gx fuel) whole (n4 l) with
 | none=>none
 | some (.err y)=>some (.inl y)
 | some (.ok n _)=>if n.size≤549755813888 then some (.inr (f5 n.size [(n,-1)] [])) else none
abbrev tRun:Ty:=.tup [.agg [.slice],.b (.int .i64),.b .bool]
def ql (v:Sum Int (List FN)) (x:tRun.den) (K:al):Fact:=match v with
 | .inl y=>Fact.prop (x=(((none,0,0),()),y,false,())∧K=[])
 | .inr l=>(Fact.prop (x.2=(0,true,()))).both (sR l x.1 K)
theorem Hh {R:aY} (hR:cm R) (pb:Nat) (whole:Int) (hw:whole=0∨whole=1∨whole=2) {Δ:Labels Int PSt N} {t:Ty} {Rel:N→t.den→al→Fact} :
  Sim PG (PI pb) t Rel (Δ.set 1 (Ek NodeF (fun n=>Pure.pure n) [])) none (.ite ((whole:Int)==0) (
   .op (aa am #[.int .i64 3,.string kE,.int .i64 0,.int .i64 0,.slice none 0 0]) tP fun r5 =>
   .loop 2 [] [] fun x6 =>
    .op (aa aH #[.pointer (some (aL pb))]) (.c (.agg [.int .i64,.str,.int .i64,.int .i64])) fun r7 =>
    .ite ((r7.1:Int) != 10) (
     .draw <|
     .opq (bV (.pointer r5)) tA fun r8 =>
     .opq (ai ad (.pointer (some ⟨r8.block,r8.off+5,none⟩))) ah fun r9 =>
     .opl (aa di #[.pointer (some (aL pb))]) tP fun r10 =>
     .opl (ar ad 1 #[(0,.pointer r10)]) ah fun r11 =>
     .opl (dg #[ad,ad] ad #[.slice r9.1 r9.2.1 r9.2.2,.slice r11.1 r11.2.1 r11.2.2]) ah fun r12 =>
     .opq (bV (.pointer r5)) tA fun r13 =>
     .op (aW ad (.pointer (some ⟨r13.block,r13.off+5,none⟩)) (.slice r12.1 r12.2.1 r12.2.2)) tU fun _ =>
     .out 2 []) (
     .out 1 [.pointer r5])) (
   .ite ((whole:Int)==1) (
    .op (aa bL #[.pointer (some (aL pb))]) tP fun r15 =>
    .out 1 [.pointer r15]) (
    .ite ((whole:Int)==2) (
     .op (aa ck #[.pointer (some (aL pb))]) tP fun r16 =>
     .out 1 [.pointer r16]) (
     .out 1 [.pointer none])))) (A7 R whole) [] []:=by
 unfold A7
 refine qA (fun h=>?_) (fun h=>?_)
 ·refine gb fun r5 K5=>?_
  refine gX (Fc R) R.fuel _ (fun _=>rfl) rfl (by have:=hR.fuel; simp [bw,N.kids]; omega) (by repeat (first | exact mz | apply ms)) fun k n K hn=>?_
  refine ag (aZ _) (fun _ h=>nomatch h) fun r7 b=>Sim.prop fun h=>?_
  subst h
  refine qA (fun h=>?_) (fun h=>?_)
  ·refine f9 (by repeat (first | exact mz | apply ms)) fun b sl ps K2 hx hb=>?_
   refine dT (hR.statement _) (fun _ h=>nomatch h) fun r10 n10=>?_
   subst hx
   refine ga hb (by repeat (first | exact mz | apply ms)) (by repeat (first | exact mz | apply ms)) (by omega) fun K=>?_
   (first | refine jy _ rfl (by simp [N.push_len] at hn ⊢; omega) (by repeat (first | exact mz | apply ms)) | refine jz _ (by decide) rfl (by simp [N.push_len] at hn ⊢; omega) (by repeat (first | exact mz | apply ms)))
  ·refine c7 (n:=n) (x:=r5) (by repeat (first | exact mz | apply ms)) ?_
   exact ct (x:=Ek NodeF (fun n=>Pure.pure n) []) (by simp [Labels.set]) n rfl fun F hF=>⟨r5,⟨rfl,rfl⟩,hF _ (List.mem_cons_self ..)⟩
 ·refine qA (fun h1=>?_) (fun h1=>?_)
  ·refine af (hR.expr _) (fun _ h=>nomatch h) fun r15 n15=>?_
   exact dF _ (by simp [Labels.set]) rfl (fun F hF=>hF _ (List.mem_cons_self ..))
  ·refine qE (fun h2=>?_) (fun h2=>?_)
   ·refine af (hR.typed _) (fun _ h=>nomatch h) fun r16 n16=>?_
    exact dF _ (by simp [Labels.set]) rfl (fun F hF=>hF _ (List.mem_cons_self ..))
   ·simp at h h1 h2; omega
theorem Hl (b1 b2 b3:Nat) (w:World):CallsD PG 83 #[.pointer (some (aL b1)),.pointer (some (aL b2)),.pointer (some (aL b3))] .returning w fun e u2 w'=>e=.returned (.tuple #[])∧u2=.returning∧w'=w:=by
 refine oo (aL b1) (aL b2) (aL b3) (Post:=fun w'=>w'=w) (.inl ⟨rfl,rfl,rfl⟩) ?_
 unfold iM
 simp only [T.wp,vk (P:=PG) (t:=gJ) (by kernel_rfl),fd]
 exact ⟨true,rfl,fun _=>trivial,fun h=>by cases h⟩
def cW (b1 b2 b3:Nat) (x:aI) (y:Int) (c:Bool):al:=[(b1,aq ap [.slice x.1 x.2.1 x.2.2]),(b2,aq ak [.int .i64 y]),(b3,aq bq [.bool c])]
theorem ED {r:eZ} {w:World} {L:al} {F:Heap} (b1 b2 b3:Nat) (y:Int) (x0:aI) (y0:Int) (c0:Bool) (hsp:Split r w (cW b1 b2 b3 x0 y0 c0++L) F) :
  CallsD PG 83 #[.pointer (some (aL b1)),.pointer (some (aL b2)),.pointer (some (aL b3))] (.panicking [{ v:=.iface bG (.agg #[.int .i64 y]),recovered:=false }]) w fun e u2 w' =>
   e=.returned (.tuple #[])∧u2=.panicking [{ v:=.iface bG (.agg #[.int .i64 y]),recovered:=true }]∧∃ F',F.le F'∧Split r w' (cW b1 b2 b3 (none,0,0) y false++L) F':=by
 refine oo (aL b1) (aL b2) (aL b3) (Post:=fun w'=>∃ F',F.le F'∧Split r w' (cW b1 b2 b3 (none,0,0) y false++L) F') (.inr ⟨[],rfl,rfl⟩) ?_
 unfold iM
 refine e7 (J:=fun vs L'=>Fact.prop (L'=cW b1 b2 b3 (none,0,0) y false++L)) (Γ:=[]) ?_ (fun _ h=>nomatch h) hsp (fun vs L' F' w' hle hJ hS=>⟨F',hle,(show L'=_ from hJ)▸hS⟩)
 refine a8 (ey (t1:=tB) false fun w=>vg (by kernel_rfl) w) ?_
 rintro _ _ _ ⟨rfl,rfl,rfl⟩
 refine jG (fun h=>by cases h) (fun _=>?_)
 refine a8 (ey (t1:=.tup [.agg [.int .i64],.b .bool]) ((y,()),true,()) fun w=>Gu (by kernel_rfl) w) ?_
 rintro _ _ _ ⟨rfl,rfl,rfl⟩
 refine jG (fun _=>?_) (fun h=>by cases h)
 refine a8 (bF (z:=[.int .i64 0]) (by kernel_rfl)) ?_
 rintro _ _ _ ⟨b4,rfl,rfl,rfl⟩
 refine a8 (a6 (L1:=[]) (T:=bG) (c:=true) rfl (by kernel_rfl) rfl (Nat.le_of_ble_eq_true rfl) (by simp [Value.cells,Value.oneCell'])) ?_
 rintro _ _ _ ⟨rfl,rfl⟩
 refine iy [(b4,aq bG [.int .i64 y])] (fun p hp=>by simp at hp; subst hp; exact List.mem_cons_self ..) ?_
 refine cC (t1:=tI) y (bR (QRd.own (List.mem_cons_self ..)) (by kernel_rfl) rfl rfl) ?_
 refine wN (a6 (L1:=[_]) (T:=ap) (c:=true) rfl (by kernel_rfl) rfl (Nat.le_of_ble_eq_true rfl) (by simp [Value.cells,Value.oneCell'])) ?_
 rintro _ _ _ ⟨rfl,rfl⟩
 refine ⟨fun p hp=>by simp at hp; subst hp; exact List.mem_cons_self ..,?_⟩
 refine a8 (a6 (L1:=[_,_]) (T:=ak) (c:=false) rfl (by kernel_rfl) rfl (Nat.le_of_ble_eq_true rfl) (by simp [Value.cells,Value.oneCell'])) ?_
 rintro _ _ _ ⟨rfl,rfl⟩
 refine a8 (a6 (L1:=[_,_,_]) (T:=bq) (c:=false) rfl (by kernel_rfl) rfl (Nat.le_of_ble_eq_true rfl) (by simp [Value.cells,Value.oneCell'])) ?_
 rintro _ _ _ ⟨rfl,rfl⟩
 exact DY (L':=cW b1 b2 b3 (none,0,0) y false++L) (List.sublist_cons_self ..) (hZ fun F hF=>rfl)
theorem D0 {P:Program} {l:Nat} {ts:List C} {m:T} {k:HC ts→T} {S:World→Prop} {Φ:Outs} {R:Ending→World→Prop} {w:World}
  (h:m.wp P S (Φ.set l fun vs w'=>∃ x,vs=HC.enc ts x∧(k x).wp P S Φ R w') R w):(T.join l ts m k).wp P S Φ R w:=by simp only [T.wp]; exact h
theorem EL {P:Program} {s:Sem Next} {t:Ty} {k:t.den→T} {S:World→Prop} {Φ:Outs} {R:Ending→World→Prop} {w:World}
  (h:fd P (fun v w'=>∃ x:t.den,v=t.enc x∧(k x).wp P S Φ R w') (fun c w'=>R (.panicked c) w') (s.run P w)):(T.op s t k).wp P S Φ R w:=by simp only [T.wp]; exact h
theorem Fr {P:Program} {b:Bool} {x y:T} {S:World→Prop} {Φ:Outs} {R:Ending→World→Prop} {w:World} (h1:b=true→x.wp P S Φ R w) (h2:b=false→y.wp P S Φ R w):(T.ite b x y).wp P S Φ R w:=by simp only [T.wp]; exact ⟨h1,h2⟩
theorem I5 {P:Program} {l:Nat} {vs:List Value} {S:World→Prop} {Φ:Outs} {R:Ending→World→Prop} {w:World} (h:Φ l vs w):(T.out l vs).wp P S Φ R w:=by simp only [T.wp]; exact h
theorem HG {w:World} {b1 b2 b3:Nat} {x:aI} {y:Int} {c:Bool} (h1:w.heap[b1]? = some (aq ap [.slice x.1 x.2.1 x.2.2])) (h2:w.heap[b2]? = some (aq ak [.int .i64 y])) (h3:w.heap[b3]? = some (aq bq [.bool c])) :
  (cV #[.c (.pointer (some (aL b1))) ap,.c (.pointer (some (aL b2))) ak,.c (.pointer (some (aL b3))) bq]).run PG w=.ok (tRun.enc ((x,()),y,c,())) w:=by
 have e1:(loadVar ap (aL b1)).run PG w=.ok (.agg #[.slice x.1 x.2.1 x.2.2]) w:=n8 (vs:=[.slice x.1 x.2.1 x.2.2]) (by kernel_rfl) h1 rfl rfl
 obtain ⟨n2,hs2⟩:=eQ (P:=PG) (t:=ak) (by kernel_rfl)
 obtain ⟨n3,hs3⟩:=eQ (P:=PG) (t:=bq) (by kernel_rfl)
 have e2:(loadVar ak (aL b2)).run PG w=.ok (.int .i64 y) w:=jx hs2 h2 rfl rfl
 have e3:(loadVar bq (aL b3)).run PG w=.ok (.bool c) w:=jx hs3 h3 rfl rfl
 have:(cV #[.c (.pointer (some (aL b1))) ap,.c (.pointer (some (aL b2))) ak,.c (.pointer (some (aL b3))) bq]).run PG w=.ok (.tuple #[.agg #[.slice x.1 x.2.1 x.2.2],.int .i64 y,.bool c]) w:=by
  simp [cV,RV.sem,asAddr,e1,e2,e3]
 exact this
def ie {ε σ:Type} (fuel:Nat) (l:List Tok) (whole:Int):Sp ε σ (Sum Int (List FN)):=fun st=>match qa fuel l whole with
 | none=>none
 | some v=>some (.ok v st)
theorem K6 (hnum:E4) {ε σ:Type} (I:av ε σ) (fuel:Nat) (hfuel:fuel≤549755813888) (sl:aI) (l:List Tok) (hl:(n4 l).ok) (whole:Int) (hw:whole=0∨whole=1∨whole=2) :
  MeetsO PG I (aa nY #[.slice sl.1 sl.2.1 sl.2.2,.int .i64 whole]) tRun (ie fuel l whole) ql [Sl 4 aO sl l]:=by
 intro r w F H st res hs hΓ hi hsp
 have hR:=HD hnum fuel hfuel
 have hsl:=hΓ _ (List.mem_cons_self ..)
 rw [eg Tryz.func53 rfl rfl]
 refine Calls.mono (Ay sl whole (Mid:=fun vs w'=>∃ b1 b2 b3 b4 F',F.le F'∧vs=[.int .i64 whole,.pointer (some (aL b1)),.pointer (some (aL b2)),.pointer (some (aL b3)),.pointer (some (aL b4))]∧Split r w' ([(b4,aq ch (bt sl (n4 l)))]++(cW b1 b2 b3 (none,0,0) 0 false++H)) F')
  (R:=fun e w'=>match e with | .returned v=>Ends I tRun ql r F res (.returned v) w' | .panicked c=>Ends I tRun ql r F res (.panicked c) w' | .outgrown=>False) ?_ ?_ ?_) (fun e w' h=>by cases e<;>exact h)
 ·rintro vs w' ⟨b1,b2,b3,b4,F',_,rfl,_⟩; exact ⟨_,_,_,_,_,rfl⟩
 ·unfold mH
  refine e7 (J:=fun vs L'=>Fact.ex fun b1:Nat=>Fact.ex fun b2:Nat=>Fact.ex fun b3:Nat=>Fact.ex fun b4:Nat=>Fact.prop (vs=[.int .i64 whole,.pointer (some (aL b1)),.pointer (some (aL b2)),.pointer (some (aL b3)),.pointer (some (aL b4))]∧L'.Perm ([(b4,aq ch (bt sl (n4 l)))]++(cW b1 b2 b3 (none,0,0) 0 false++H)))) (Γ:=[]) (L:=H) ?_ (fun _ h=>nomatch h) hsp ?_
  ·refine a8 (bF (z:=[.slice none 0 0]) (by kernel_rfl)) ?_
   rintro _ _ _ ⟨b1,rfl,rfl,rfl⟩
   refine a8 (bF (z:=[.int .i64 0]) (by kernel_rfl)) ?_
   rintro _ _ _ ⟨b2,rfl,rfl,rfl⟩
   refine a8 (bF (z:=[.bool false]) (by kernel_rfl)) ?_
   rintro _ _ _ ⟨b3,rfl,rfl,rfl⟩
   refine a8 (nd _) ?_
   rintro _ _ _ ⟨b4,rfl,rfl,rfl⟩
   refine hZ fun F hF=>⟨b1,b2,b3,b4,rfl,?_⟩
   refine List.Perm.cons _ ?_
   show ((b3,_)::(b2,_)::(b1,_)::H).Perm ((b1,_)::(b2,_)::(b3,_)::H)
   exact (List.Perm.swap _ _ _).trans (((List.Perm.swap _ _ _).cons _).trans (List.Perm.swap _ _ _)) |>.trans (by exact List.Perm.refl _)
  ·rintro vs L' F' w' hle ⟨b1,b2,b3,b4,rfl,hp⟩ hS
   exact ⟨b1,b2,b3,b4,F',hle,rfl,hS.perm hp.symm⟩
 ·rintro s1 s4 s5 s6 s7 w1 ⟨b1,b2,b3,b4,F1,hle1,hv,hS⟩
  obtain rfl:s1=whole:=by have:=(List.cons.inj hv).1; cases this; rfl
  obtain rfl:s4=aL b1:=by have:=(List.cons.inj (List.cons.inj hv).2).1; cases this; rfl
  obtain rfl:s5=aL b2:=by have:=(List.cons.inj (List.cons.inj (List.cons.inj hv).2).2).1; cases this; rfl
  obtain rfl:s6=aL b3:=by have:=(List.cons.inj (List.cons.inj (List.cons.inj (List.cons.inj hv).2).2).2).1; cases this; rfl
  obtain rfl:s7=some (aL b4):=by have:=(List.cons.inj (List.cons.inj (List.cons.inj (List.cons.inj (List.cons.inj hv).2).2).2).2).1; cases this; rfl
  have hinv1:((PI b4).inv (n4 l) [(b4,aq ch (bt sl (n4 l)))]).p F1:=⟨sl,ch,⟨rfl,hl⟩,(Sl 4 aO sl l).mono _ _ hle1 hsl⟩
  -- the end: the results are read
  have fin:∀ (v:Sum Int (List FN)) (x:aI) (y:Int) (c:Bool) (K:al) (w2:World) (F2:Heap),res=.ok v st→F.le F2→Split r w2 (K++(cW b1 b2 b3 x y c++H)) F2→(ql v ((x,()),y,c,()) K).p F2 →
    ∃ u,(cV #[.c (.pointer (some (aL b1))) ap,.c (.pointer (some (aL b2))) ak,.c (.pointer (some (aL b3))) bq]).run PG w2=.ok u w2∧Ends I tRun ql r F res (.returned u) w2:=by
   intro v x y c K w2 F2 hres hle2 hS2 hv2
   have ho:∀ b o,(b,o)∈cW b1 b2 b3 x y c→w2.heap[b]? = some o:=fun b o hm=>hS2.own b o (List.mem_append_right _ (List.mem_append_left _ hm))
   refine ⟨_,HG (x:=x) (y:=y) (c:=c) (ho _ _ (by simp [cW])) (ho _ _ (by simp [cW])) (ho _ _ (by simp [cW])),F2,hle2,?_⟩
   subst hres
   refine ⟨H,K,((x,()),y,c,()),rfl,(I.inv st H).mono _ _ hle2 hi,?_,hv2⟩
   exact (hS2.sub ((List.sublist_append_right _ _).append_left K)).perm List.perm_append_comm
  have caught:∀ (y:Int) (w2:World) (F2:Heap),res=.ok (.inl y) st→F.le F2→Split r w2 (cW b1 b2 b3 (none,0,0) 0 false++H) F2 →
    jO PG 83 #[.pointer (some (aL b1)),.pointer (some (aL b2)),.pointer (some (aL b3))] #[.c (.pointer (some (aL b1))) ap,.c (.pointer (some (aL b2))) ak,.c (.pointer (some (aL b3))) bq]
     (fun e w'=>match e with | .returned v=>Ends I tRun ql r F res (.returned v) w' | .panicked c=>Ends I tRun ql r F res (.panicked c) w' | .outgrown=>False) (.panicking [{ v:=.iface bG (.agg #[.int .i64 y]),recovered:=false }]) w2:=by
   intro y w2 F2 hres hle2 hS2
   refine CallsD.mono (ED b1 b2 b3 y (none,0,0) 0 false hS2) ?_
   rintro e u' w4 ⟨rfl,rfl,F4,hle4,hS4⟩
   exact ⟨_,rfl,fin (.inl y) (none,0,0) y false [] w4 F4 hres (hle2.trans hle4) hS4 ⟨rfl,rfl⟩⟩
  have hfst:qa fuel l s1=(match xJ (gx fuel) s1 (n4 l) with
   | none=>none
   | some (.err y)=>some (.inl y)
   | some (.ok n _)=>if n.size≤549755813888 then some (.inr (f5 n.size [(n,-1)] [])) else none):=rfl
  have hsV:∀ v,qa fuel l s1=some v→res=.ok v st:=fun v h=>by
   have e:(ie fuel l s1:Sp ε σ _) st=some (.ok v st):=by unfold ie; rw [h]
   rw [e] at hs; cases hs; rfl
  unfold l6
  refine D0 ?_
  cases hres1:A7 (gx fuel) s1 (n4 l) with
  | none =>
   have e:xJ (gx fuel) s1 (n4 l)=none:=by show Sp.bind _ _ _=none; simp only [Sp.bind,hres1]
   have e2:qa fuel l s1=none:=by rw [hfst,e]
   have e3:(ie fuel l s1:Sp ε σ _) st=none:=by unfold ie; rw [e2]
   rw [e3] at hs; cases hs
  | some res1 =>
   have hh:=Hh hR b4 s1 hw (Δ:=noLabel) (t:=tP) (Rel:=fun _ _ _=>Fact.prop False) (Split.give r (cW b1 b2 b3 (none,0,0) 0 false++H)) w1 F1 _ (n4 l) res1 (fun _=>True) hres1 (fun _ h=>nomatch h) hinv1 (FK hS.out) trivial
   refine T.wp_mono _ ?_ ?_ hh
   ·intro lb vs w2 ho
    by_cases hlb:lb=1
    ·subst hlb
     obtain ⟨n,L2,F2,H2,st2,hle2,hsp2,⟨p,⟨rfl,rfl⟩,hn2⟩,hinv2,hS2⟩:=ho
     have hr1:res1=.ok n st2:=by
      have:(some (Res.ok n st2):Option (Res Int PSt N))=some res1:=hsp2
      cases this; rfl
     subst hr1
     refine ⟨(p,()),rfl,?_⟩
     rw [List.append_nil] at hS2
     refine EL (bJ ?_ ?_ _ (aZ b4 (Split.give r (cW b1 b2 b3 (none,0,0) 0 false++H)) w2 F2 H2 st2 (.ok st2.now st2) rfl (fun _ h=>nomatch h) hinv2 hS2))
     ·rintro v w3 ⟨F3,hle3,H3,K3,x3,hx3,hinv3,hS3,hK3,hR3⟩
      cases hx3
      have hK3':K3=[]:=hK3
      have hR3':x3=st2.now:=hR3
      subst hK3'; subst hR3'
      rw [List.append_nil] at hS3
      refine ⟨_,rfl,D0 (Fr (fun h10=>?_) (fun h10=>?_))⟩
      ·-- something is left over
       have e:xJ (gx fuel) s1 (n4 l)=some (.err st2.now.pos):=by
        show Sp.bind _ _ _=_
        simp only [Sp.bind,hres1]
        show (cond (st2.now.kind != 10) cD (Pure.pure n):PM N) st2=_
        rw [show (st2.now.kind != 10)=true from h10]; rfl
       have hres:=hsV (.inl st2.now.pos) (by rw [hfst,e])
       refine EL (bJ ?_ ?_ _ (fS (β:=Unit) (t:=tU) (Rel:=fun _ _ _=>Fact.prop False) b4 (Split.give r (cW b1 b2 b3 (none,0,0) 0 false++H)) w3 F3 H3 st2 (.err st2.now.pos) rfl (fun _ h=>nomatch h) hinv3 hS3))
       ·rintro v w4 ⟨F4,_,c,hc,_⟩; cases hc
       ·rintro c w4 ⟨F4,hle4,c',hc,hy,hS4⟩
        cases hc
        have hy':c=[{ v:=.iface bG (.agg #[.int .i64 st2.now.pos]),recovered:=false }]:=hy
        subst hy'
        exact caught _ w4 F4 hres (hle1.trans (hle2.trans (hle3.trans hle4))) (Split.back (L:=cW b1 b2 b3 (none,0,0) 0 false++H) hS hS4)
      ·refine I5 ⟨(),rfl,?_⟩
       have e:xJ (gx fuel) s1 (n4 l)=some (.ok n st2):=by
        show Sp.bind _ _ _=_
        simp only [Sp.bind,hres1]
        show (cond (st2.now.kind != 10) cD (Pure.pure n):PM N) st2=_
        rw [show (st2.now.kind != 10)=false from h10]; rfl
       by_cases hsz:n.size≤549755813888
       case neg =>
        have e2:qa fuel l s1=none:=by rw [hfst,e]; simp only [if_neg hsz]
        have e3:(ie fuel l s1:Sp ε σ _) st=none:=by unfold ie; rw [e2]
        rw [e3] at hs; cases hs
       have hres:=hsV (.inr (f5 n.size [(n,-1)] [])) (by rw [hfst,e]; simp only [if_pos hsz])
       have hS4:Split r w3 ([]++(H3++(cW b1 b2 b3 (none,0,0) 0 false++H))) F3:=Split.back (L:=cW b1 b2 b3 (none,0,0) 0 false++H) hS hS3
       refine EL (bJ ?_ ?_ _ (Jy (I0:av Unit Unit) n p (Split.give r (H3++(cW b1 b2 b3 (none,0,0) 0 false++H))) w3 F3 [] () (.ok (f5 n.size [(n,-1)] []) ()) (by unfold Ev; rw [if_pos hsz]; rfl) (fun A hA=>by obtain rfl:=List.mem_singleton.1 hA; exact (NodeF n p).mono _ _ hle3 hn2) rfl hS4.out))
       ·rintro v w5 ⟨F5,hle5,H5,K5,x5,hx5,hinv5,hS5,hT5⟩
        cases hx5
        have hH5:H5=[]:=hinv5
        subst hH5
        refine ⟨_,rfl,?_⟩
        have hS6:Split r w5 (K5++(H3++(cW b1 b2 b3 (none,0,0) 0 false++H))) F5:=Split.back hS4 hS5
        obtain ⟨x5,⟨⟩⟩:=x5
        refine T.wp_mono _ ?_ (fun _ _ h=>h.elim) (e7 (r:=r) (F:=F5) (Γ:=[]) (J:=fun vs L'=>Fact.prop (L'=K5++(H3++(cW b1 b2 b3 x5 0 true++H)))) (Post:=fun vs w'=>∃ F6,F5.le F6∧Split r w' (K5++(H3++(cW b1 b2 b3 x5 0 true++H))) F6) ?_ (fun _ h=>nomatch h) hS6 ?_)
        ·rintro lb vs w6 ⟨F6,hle6,hS7⟩
         refine CallsD.mono (Hl b1 b2 b3 w6) ?_
         rintro e u' w7 ⟨rfl,rfl,rfl⟩
         exact ⟨_,rfl,fin (.inr _) x5 0 true K5 w7 F6 hres (hle1.trans (hle2.trans (hle3.trans (hle5.trans hle6)))) (hS7.sub ((List.sublist_append_right _ _).append_left K5)) ⟨rfl,(sR _ _ _).mono _ _ hle6 hT5⟩⟩
        ·refine a8 (a6 (L1:=K5++H3) (L2:=(b2,aq ak [.int .i64 0])::(b3,aq bq [.bool false])::H) (l:=[.slice none 0 0]) (T0:=ap) (T:=ap) (c:=true) (by simp [cW]) (by kernel_rfl) rfl (Nat.le_of_ble_eq_true rfl) (by simp [Value.cells,Value.oneCell'])) ?_
         rintro _ _ _ ⟨rfl,rfl⟩
         refine a8 (a6 (L1:=K5++H3++[(b1,aq ap [.slice x5.1 x5.2.1 x5.2.2])]) (L2:=(b3,aq bq [.bool false])::H) (l:=[.int .i64 0]) (T0:=ak) (T:=ak) (c:=false) (by simp [bB,Value.cells]) (by kernel_rfl) rfl (Nat.le_of_ble_eq_true rfl) (by simp [Value.cells,Value.oneCell'])) ?_
         rintro _ _ _ ⟨rfl,rfl⟩
         refine a8 (a6 (L1:=K5++H3++[(b1,aq ap [.slice x5.1 x5.2.1 x5.2.2]),(b2,aq ak [.int .i64 0])]) (L2:=H) (l:=[.bool false]) (T0:=bq) (T:=bq) (c:=false) (by simp [bB,Value.cells]) (by kernel_rfl) rfl (Nat.le_of_ble_eq_true rfl) (by simp [Value.cells,Value.oneCell'])) ?_
         rintro _ _ _ ⟨rfl,rfl⟩
         exact hZ fun F hF=>by show _=_; simp [cW,bB,Value.cells]
        ·intro vs L' F' w' hle' hJ hS'
         exact ⟨F',hle',(show L'=_ from hJ)▸hS'⟩
       ·rintro c w5 ⟨F5,hle5,H5,K5,x5,hx5,_⟩; cases hx5
     ·rintro c w3 ⟨F3,hle3,H3,K3,x3,hx3,_⟩; cases hx3
    ·simp only [Labels.set,if_neg hlb,noLabel] at ho
     obtain ⟨i,_⟩:=ho
     exact i.elim
   ·rintro e w2 ⟨F2,hle2,h⟩
    cases res1 with
    | ok n st2=>obtain ⟨_,_,_,_,_,_,h⟩:=h; exact (show False from h).elim
    | err y =>
     obtain ⟨c,rfl,hy,hS2⟩:=h
     have hy':c=[{ v:=.iface bG (.agg #[.int .i64 y]),recovered:=false }]:=hy
     subst hy'
     have e:xJ (gx fuel) s1 (n4 l)=some (.err y):=by show Sp.bind _ _ _=_; simp only [Sp.bind,hres1]
     exact caught y w2 F2 (hsV (.inl y) (by rw [hfst,e])) (hle1.trans hle2) (Split.back (L:=cW b1 b2 b3 (none,0,0) 0 false++H) hS hS2)
end Go.Proofs.YtjlgcpgjdgeejaaGreatDoor
end

section
namespace Go.Proofs.YtjlgcpgjdgeejaaGreatDoor
open Go
set_option linter.unusedSimpArgs false
set_option linter.unusedVariables false
set_option linter.constructorNameAsVariable false
def JO (rs:List Nat):ResultVar→Bool
 | .tmp s=>rs.contains s
 | .cell s _=>rs.contains s
theorem F9 {P:Program} {f:FuncId} {fn:Func} {c1 c2 c3 c4 asn bd:Code} {bi:Nat} {g:Tmp} {ps:Array Tmp} {args:List Value} {w:World} {R:Ending→World→Prop} {rs:List Nat}
  {slots:List Nat} {an1 an2 an3 an4:An} {Mid:List Value→World→Prop} (hf:P.funcs[f]? = some fn) (hb:fn.body=some (.seq c1 (.seq c2 (.seq (.seq c3 (.block bi (.rangeFunc (.tmp g) ps asn bd))) c4))))
  (hn:args.length≤fn.ntmps) (hgs:slots.contains g=true) (hres:fn.results.all (JO rs)=true)
  (h1:(den P (NN.of fn.ntmps) #[] c1 an1 1 (dG args) (fun e=>den P (NN.of fn.ntmps) #[] c2 an2 1 e (fun e=>den P (NN.of fn.ntmps) #[] c3 an3 1 e (d9 0 slots) e0) e0) e0).wp P (fun _=>True) (fun _ vs w'=>Mid vs w') (fun _ _=>False) w)
  (h2:∀ vs w',Mid vs w'→∃ gf lb,(Env.puts (fun _=>none) slots vs g=some (.v (.func (.func gf) #[] lb)))∧(∀ args w,(callFunc gf args).run P w=.ok (.enter gf args) w) ∧
   ∀ (tmps:Array Value) (fid:FuncId),tmps.size=fn.ntmps→(∀ s v,Env.puts (fun _=>none) slots vs s=some v→tmps.getD s undef=v.val) →
    Calls P gf (#[.func (.yield (w'.heap.size+1)) #[] #[]]++lb) ((w'.alloc (.deferred (some []))).alloc (.loop { state:=.ready,pending:=none,fn:=fid,tmps:=tmps,params:=ps,assign:=asn,body:=bd,defers:=w'.heap.size })) fun e w3 =>
     ∃ v r,e=.returned v∧w3.heap[w'.heap.size+1]? = some (.loop r)∧r.state≠.busy ∧
      (r.pending=none∧∀ N:NN,N.lo=0→N.hi=fn.ntmps→N.rd=none→(den P N #[] c4 an4 1 (Env.puts (fun _=>none) slots vs) (d9 0 rs) (fun ex e=>match ex with | .ret=>d9 0 rs e | _=>.bad)).wp P (fun _=>True)
        (fun _ vs5 w5=>qK P (fn.results.map (fL (Env.puts (fun _=>none) rs vs5))) w'.heap.size R w5) (fun _ _=>False) (w3.putObj (w'.heap.size+1) (.loop { r with state:=.exhausted })))) :
  Calls P f args.toArray w R:=by
 refine (callsIn_wide (n:=0)).1 (callsIn_of_wp_marks hf hb trivial ?_)
 have hW:(FW none)=Fence.wide:=rfl
 refine wpIn_seq (Code.wpIn_mono (Q:=fun ex a' w'=>match ex with
  | .normal=>(Code.seq c2 (.seq (.seq c3 (.block bi (.rangeFunc (.tmp g) ps asn bd))) c4)).wpIn Fence.wide 0 P (bodyPostM Fence.wide 0 P fn R) a' w'
  | _=>False) (fun ex a' w' h=>by cases ex<;>first | exact h | exact h.elim) ((ff c1).1 an1 1 (dG args) _ _ _ w _ _ _ h1 ?_ ?_ ?_ ?_ ?_))
 ·have hsz:fn.ntmps - args.length+args.length=fn.ntmps:=by omega
  refine ⟨⟨rfl,fun i hi=>absurd hi (Nat.not_lt_zero i)⟩,by simp [NN.of]; omega,fun i v hv=>?_⟩
  simp only [dG,Option.map_eq_some_iff] at hv
  obtain ⟨x,hx,rfl⟩:=hv
  have hi:i < args.length:=by
   rcases Nat.lt_or_ge i args.length with h' | h'
   ·exact h'
   ·simp [List.getElem?_eq_none h'] at hx
  have hx':args[i]=x:=by simpa [List.getElem?_eq_getElem hi] using hx
  simp [Array.getD_eq_getD_getElem?,Array.getElem?_append,hi,hx',EV.val]
 ·intro Φ1 S1 e1 a1 w1 hb1 ha1 hs1 hx1
  refine wpIn_seq (Code.wpIn_mono (Q:=fun ex a' w'=>match ex with
   | .normal=>(Code.seq (.seq c3 (.block bi (.rangeFunc (.tmp g) ps asn bd))) c4).wpIn Fence.wide 0 P (bodyPostM Fence.wide 0 P fn R) a' w'
   | _=>False) (fun ex a' w' h=>by cases ex<;>first | exact h | exact h.elim) ((ff c2).1 an2 1 e1 _ _ a1 w1 Φ1 S1 _ hx1 ha1 ?_ ?_ ?_ ?_))
  ·intro Φ2 S2 e2 a2 w2 hb2 ha2 hs2 hx2
   refine wpIn_seq (wpIn_seq (Code.wpIn_mono (Q:=fun ex a' w'=>match ex with
    | .normal=>(Code.block bi (.rangeFunc (.tmp g) ps asn bd)).wpIn Fence.wide 0 P (Exit.then (c4.wpIn Fence.wide 0 P (bodyPostM Fence.wide 0 P fn R)) (bodyPostM Fence.wide 0 P fn R)) a' w'
    | _=>False) (fun ex a' w' h=>by cases ex<;>first | exact h | exact h.elim) ((ff c3).1 an3 1 e2 _ _ a2 w2 Φ2 S2 _ hx2 ha2 ?_ ?_ ?_ ?_)))
   ·intro Φ3 S3 e3 a3 w3 hb3 ha3 hs3 hx3
    obtain ⟨vs,hg,ho⟩:=eP hx3
    rw [hb3 0 (Nat.lt_succ_self 0),hb2 0 (Nat.lt_succ_self 0),hb1 0 (Nat.lt_succ_self 0)] at ho
    obtain ⟨gf,lb,hgv,hcf,hcall⟩:=h2 vs w3 ho
    have hA3:Agree (NN.of fn.ntmps) (Env.puts (fun _=>none) slots vs) a3:=Agree.puts ha3 slots vs _ (Agree.start ha3.defers ha3.size) hg
    refine wpIn_block (wpIn_rangeFunc fun fid _=>?_)
    have hev:a3.eval (.tmp g)=.func (.func gf) #[] lb:=by
     have:=hA3.val g _ hgv
     simpa [Act.eval,EV.val] using this
    have hc:=hcall a3.tmps fid ha3.size hA3.val
    let W1:=(w3.alloc (.deferred (some []))).alloc (.loop { state:=.ready,pending:=none,fn:=fid,tmps:=a3.tmps,params:=ps,assign:=asn,body:=bd,defers:=w3.heap.size })
    refine ⟨w3.heap.size+1,[{ target:=.collected w3.heap.size,args:=#[] }],W1,{ target:=.fn (.func gf) lb,args:=#[.func (.yield (w3.heap.size+1)) #[] #[]] },W1,gf,
     #[.func (.yield (w3.heap.size+1)) #[] #[]]++lb,W1,run_enterLoop_outer _ _ _ _ _,?_,fun f' _=>trivial,?_,fun h=>(by cases h),?_⟩
    ·simp only [resolve,hev]
     simp [Deferred.ofValue,Act.eval]
    ·simp [invoke,hcf]
    refine callsIn_wide.2 (Calls.mono hc fun e w4 he=>?_)
    obtain ⟨v,⟨rst,rpe,rfn,rtm,rps,ras,rbd,rdf⟩,rfl,hl,hbusy,hend⟩:=he
    refine ⟨_,_,run_endLoop hl hbusy,?_⟩
    have hd3:a3.defers=[]:=ha3.defers.1
    let a4:Act:={ a3 with defers:=[{ target:=.collected w3.heap.size,args:=#[] }]++a3.defers }
    obtain ⟨hp,ht⟩:=hend
    have hp':rpe=none:=hp
    subst hp'
    let N:NN:=⟨0,fn.ntmps,a4.defers,fun i=>a4.tmps.getD i undef,none⟩
    have hA4:Agree N (Env.puts (fun _=>none) slots vs) a4:=⟨⟨rfl,fun i _=>rfl⟩,ha3.size,hA3.val⟩
    have hfin:∀ (e5:Env) (a5:Act) (w5:World) (vs5:List Value),Agree N e5 a5→e5.gets rs=some vs5 →
      qK P (fn.results.map (fL (Env.puts (fun _=>none) rs vs5))) w3.heap.size R w5→LeavesInM Fence.wide 0 P fn a5.tmps R a5.defers .returning w5:=by
     rintro e5 a5 w5 vs5 hA5 hg5 ⟨hD,u,hu,hRu⟩
     have hd:a5.defers=[{ target:=.collected w3.heap.size,args:=#[] }]:=by
      rw [hA5.defers.1]; show [_]++a3.defers=_; rw [hd3]; rfl
     have hA6:Agree N (Env.puts (fun _=>none) rs vs5) a5:=Agree.puts hA5 rs vs5 _ ⟨hA5.defers,hA5.size,fun i v h=>by cases h⟩ hg5
     have hr:results fn a5.tmps=cV (fn.results.map (fL (Env.puts (fun _=>none) rs vs5))):=by
      refine jY fun r hr=>?_
      have hro:=Array.all_eq_true_iff_forall_mem.1 hres r hr
      have one:∀ s,rs.contains s=true→(Env.puts (fun _=>none) rs vs5).at (.tmp s)=a5.tmps.getD s undef:=fun s hs=>by
       obtain ⟨u,_,g1,_,_⟩:=ur (b:=fun _=>none) hg5 s (by simpa using hs)
       rw [hA6.val s u g1]
       simp [Env.at,Env.ev,g1]
      cases r with
      | tmp s=>exact one s hro
      | cell s ty=>exact one s hro
     rw [hd]
     refine ⟨by simp,.inl ⟨w3.heap.size,_,rfl,run_takeDeferred hD,?_⟩⟩
     exact ⟨u,by rw [hr]; exact hu,hRu⟩
    refine Code.wpIn_mono (fun ex a' w' h=>?_) ((ff c4).1 an4 1 _ (d9 0 rs) _ a4 _ _ _ (fun ex a' w'=>match ex with
     | .panic _=>False
     | _=>bodyPostM Fence.wide 0 P fn R ex a' w') (ht N rfl rfl rfl) hA4 ?_ ?_ ?_ ?_)
    ·cases ex<;>first | exact h | exact h.elim
    ·intro Φ4 S4 e4 a5 w5 hb4 ha5 hs5 hx5
     obtain ⟨vs5,hg5,ho5⟩:=eP hx5
     rw [hb4 0 (Nat.lt_succ_self 0)] at ho5
     exact hfin e4 a5 w5 vs5 ha5 hg5 ho5
    ·intro Φ4 S4 ex e4 a5 w5 hne hb4 ha5 hs5 hx5
     cases ex with
     | ret =>
      obtain ⟨vs5,hg5,ho5⟩:=eP hx5
      rw [hb4 0 (Nat.lt_succ_self 0)] at ho5
      exact hfin e4 a5 w5 vs5 ha5 hg5 ho5
     | normal=>exact absurd rfl hne
     | _=>simp only [T.wp] at hx5
    ·intro c a w' _ h; exact h.elim
    ·intro c a d v w' _ h; exact h
   ·intro Φ3 S3 ex e3 a3 w3 hne hb3 ha3 hs3 hx3
    simp only [e0,T.wp] at hx3
   ·intro c a w' _ h; exact h.elim
   ·intro c a d v w' _ h; exact h
  ·intro Φ3 S3 ex e3 a3 w3 hne hb3 ha3 hs3 hx3
   simp only [e0,T.wp] at hx3
  ·intro c a w' _ h; exact h.elim
  ·intro c a d v w' _ h; exact h
 ·intro Φ3 S3 ex e3 a3 w3 hne hb3 ha3 hs3 hx3
  simp only [e0,T.wp] at hx3
 ·intro c a w' _ h; exact h.elim
 ·intro c a d v w' _ h; exact h
end Go.Proofs.YtjlgcpgjdgeejaaGreatDoor
end

section
namespace Go.Proofs.YtjlgcpgjdgeejaaGreatDoor
open Go
set_option linter.unusedVariables false
set_option maxRecDepth 100000
noncomputable section
def o7:An :=
 .r [some tA,some tA,some tA]
def pg:An :=
 .r [some tA]
def pC:An :=
 .r [none,some tV]
def pV:An :=
 .s (.r [some tA,some tU]) (.r [none])
def pQ:An :=
 .b (.s (.s (.r [none,none]) (.c (.s (.d (.q 0 none (.q 1 (some tI) (.q 2 none (.l 3 (some tU) (.l 4 (some tU) (.l 5 (some tU) (.e)))))))) (.x)) (.x))) (.r [some ah,some (.c (.agg [.int .i64,.str,.int .i64,.int .i64])),some ah,some ah,some tU]))
def pS:An :=
 .s (.r [some ah,some tU,some tU,some tU]) (.x)
def mO (a0_b:Option Addr × Nat × Nat):T :=
 .op (bj az) tA fun r1 =>
 .op (bj ak) tA fun r2 =>
 .op (bj bQ) tA fun r3 =>
 .op (bj az) tA fun r4 =>
 .op (aa qi #[.slice a0_b.1 a0_b.2.1 a0_b.2.2]) tV fun r5 =>
 .out 0 [.pointer (some r1),.pointer (some r2),.pointer (some r3),.pointer (some r4),r5]
def mh (s2:Addr) (s3:Addr) (s4:Addr) (s5:Addr) (s9:Value) (p10:HB [.int .i64,.str,.int .i64,.int .i64]) (p11:Int):T :=
 .op (bj ae) tA fun r6 =>
 .op (aW ae (.pointer (some r6)) (.agg #[.int .i64 p10.1,.string p10.2.1,.int .i64 p10.2.2.1,.int .i64 p10.2.2.2.1])) tU fun _ =>
 .out 0 [.pointer (some s2),.pointer (some s3),.pointer (some s4),.pointer (some s5),.pointer (some r6),.int .i64 p11]
def lL (b2:Addr) (b3:Addr) (b4:Addr) (b5:Addr) (b6:Addr) (b7:Int):T :=
 .ite ((b7:Int) != 0) (
  .draw <|
  .opq (ai ak (.pointer (some ⟨b6.block,b6.off+2,none⟩))) tI fun r8 =>
  .opl (aW az (.pointer (some b2)) (.slice none 0 0)) tU fun _ =>
  .opl (aW ak (.pointer (some b3)) (.int .i64 r8)) tU fun _ =>
  .op (aW bQ (.pointer (some b4)) (.int .i64 b7)) tU fun _ =>
  .out 1 []) (
  .op (ai az (.pointer (some b5))) ah fun r12 =>
  .op (ai ae (.pointer (some b6))) (.c (.agg [.int .i64,.str,.int .i64,.int .i64])) fun r13 =>
  .op (ar az 1 #[(0,.agg #[.int .i64 r13.1,.string r13.2.1,.int .i64 r13.2.2.1,.int .i64 r13.2.2.2.1])]) ah fun r14 =>
  .op (dg #[az,az] az #[.slice r12.1 r12.2.1 r12.2.2,.slice r14.1 r14.2.1 r14.2.2]) ah fun r15 =>
  .op (aW az (.pointer (some b5)) (.slice r15.1 r15.2.1 r15.2.2)) tU fun _ =>
  .out 0 [])
def mj (s2:Addr) (s3:Addr) (s4:Addr) (s5:Addr) (s9:Value):T :=
 .op (ai az (.pointer (some s5))) ah fun r17 =>
 .op (aW az (.pointer (some s2)) (.slice r17.1 r17.2.1 r17.2.2)) tU fun _ =>
 .op (aW ak (.pointer (some s3)) (.int .i64 0)) tU fun _ =>
 .op (aW bQ (.pointer (some s4)) (.int .i64 0)) tU fun _ =>
 .out 0 []
theorem zg (a0_b:Option Addr × Nat × Nat):den Tryz.prog (NN.of 22) #[] (bH Tryz.f26).lft o7 1 (dG [.slice a0_b.1 a0_b.2.1 a0_b.2.2]) (fun e=>den Tryz.prog (NN.of 22) #[] (bH Tryz.f26).rgt.lft pg 1 e (fun e=>den Tryz.prog (NN.of 22) #[] (bH Tryz.f26).rgt.rgt.lft.lft pC 1 e (d9 0 [2,3,4,5,9]) e0) e0) e0=mO a0_b:=by kernel_rfl
theorem AS (s2:Addr) (s3:Addr) (s4:Addr) (s5:Addr) (s9:Value) (p10:HB [.int .i64,.str,.int .i64,.int .i64]) (p11:Int) (l:Nat):den Tryz.prog ⟨0,22,[],fun _=>undef,some l⟩ #[] (bH Tryz.f26).rgt.rgt.lft.rgt.inB.rAs pV 1 (Env.puts (Env.puts (fun _=>none) [2,3,4,5,9] [.pointer (some s2),.pointer (some s3),.pointer (some s4),.pointer (some s5),s9]) [10,11] [.agg #[.int .i64 p10.1,.string p10.2.1,.int .i64 p10.2.2.1,.int .i64 p10.2.2.2.1],.int .i64 p11]) (d9 0 [2,3,4,5,6,7]) e0=mh s2 s3 s4 s5 s9 p10 p11:=by kernel_rfl
theorem Ac (b2:Addr) (b3:Addr) (b4:Addr) (b5:Addr) (b6:Addr) (b7:Int) (l:Nat):den Tryz.prog ⟨0,22,[],fun _=>undef,some l⟩ #[] (bH Tryz.f26).rgt.rgt.lft.rgt.inB.rBd pQ 2 (Env.puts (fun _=>none) [2,3,4,5,6,7] [.pointer (some b2),.pointer (some b3),.pointer (some b4),.pointer (some b5),.pointer (some b6),.int .i64 b7]) qz wB=lL b2 b3 b4 b5 b6 b7:=by kernel_rfl
theorem zx (s2:Addr) (s3:Addr) (s4:Addr) (s5:Addr) (s9:Value) (D:List Deferred) (K:Nat→Value):den Tryz.prog ⟨5,22,D,K,none⟩ #[] (bH Tryz.f26).rgt.rgt.rgt pS 1 (Env.puts (fun _=>none) [2,3,4,5,9] [.pointer (some s2),.pointer (some s3),.pointer (some s4),.pointer (some s5),s9]) qz (fun ex _=>match ex with | .ret=>.out 0 [] | _=>.bad)=mj s2 s3 s4 s5 s9:=by kernel_rfl
theorem AV (s2:Addr) (s3:Addr) (s4:Addr) (s5:Addr) (s9:Value) (p10:HB [.int .i64,.str,.int .i64,.int .i64]) (p11:Int) {l fid:Nat} {tmps:Array Value} {w:World} {K:Value→World→Prop} {N:List PanicEntry→World→Prop} (hsz:tmps.size=22) (hag:∀ s v,(Env.puts (fun _=>none) [2,3,4,5,9] [.pointer (some s2),.pointer (some s3),.pointer (some s4),.pointer (some s5),s9]) s=some v→tmps.getD s undef=v.val)
  (h:(mh s2 s3 s4 s5 s9 p10 p11).wp Tryz.prog (fun _=>True) (fun _ vs w1=>∃ r:Loop,w1.heap[l]? = some (.loop r)∧r.state=.ready∧∃ b2:Addr,∃ b3:Addr,∃ b4:Addr,∃ b5:Addr,∃ b6:Addr,∃ b7:Int,vs=[.pointer (some b2),.pointer (some b3),.pointer (some b4),.pointer (some b5),.pointer (some b6),.int .i64 b7]∧(lL b2 b3 b4 b5 b6 b7).wp Tryz.prog (fun _=>True) (fun i _ w2=>t7 l K i w2) (fun _ _=>False) (w1.putObj l (.loop { r with state:=.busy }))) (fun _ _=>False) w) :
  RoundIn Fence.wide 0 Tryz.prog l fid ((#[10,11].zip #[.agg #[.int .i64 p10.1,.string p10.2.1,.int .i64 p10.2.2.1,.int .i64 p10.2.2.2.1],.int .i64 p11]).foldl (fun t (p,v)=>t.setIfInBounds p v) tmps) (bH Tryz.f26).rgt.rgt.lft.rgt.inB.rAs (bH Tryz.f26).rgt.rgt.lft.rgt.inB.rBd w fun
   | .returned v,w'=>K v w'
   | .panicked c,w'=>N c w'
   | .outgrown,_=>False:=by
 refine tK (nt:=22) (anA:=pV) (anB:=pQ) (slots:=[2,3,4,5,6,7]) (e:=Env.puts (Env.puts (fun _=>none) [2,3,4,5,9] [.pointer (some s2),.pointer (some s3),.pointer (some s4),.pointer (some s5),s9]) [10,11] [.agg #[.int .i64 p10.1,.string p10.2.1,.int .i64 p10.2.2.1,.int .i64 p10.2.2.2.1],.int .i64 p11]) (S:=fun _=>True) (Φ:=fun _ _ _=>False) (by rw [yK]; exact hsz) (vL [10,11] [.agg #[.int .i64 p10.1,.string p10.2.1,.int .i64 p10.2.2.1,.int .i64 p10.2.2.2.1],.int .i64 p11] (by decide) (by rw [hsz]; decide) hag) ?_
 have e1:=AS s2 s3 s4 s5 s9 p10 p11 l
 rw [e1]
 refine T.wp_mono _ ?_ (fun _ _ h=>h) h
 rintro lb vs w1 ⟨r,h1,h2,b2,b3,b4,b5,b6,b7,rfl,h3⟩
 refine ⟨r,h1,h2,?_⟩
 have e2:=Ac b2 b3 b4 b5 b6 b7 l
 rw [e2]
 exact h3
theorem zq (a0_b:Option Addr × Nat × Nat) {w:World} {R:Ending→World→Prop} {Mid:List Value→World→Prop} (hsh:∀ vs w',Mid vs w'→∃ s2 s3 s4 s5 s9,vs=[.pointer (some s2),.pointer (some s3),.pointer (some s4),.pointer (some s5),s9])
  (h1:(mO a0_b).wp Tryz.prog (fun _=>True) (fun _ vs w'=>Mid vs w') (fun _ _=>False) w)
  (h2:∀ (s2:Addr) (s3:Addr) (s4:Addr) (s5:Addr) (s9:Value) w',Mid [.pointer (some s2),.pointer (some s3),.pointer (some s4),.pointer (some s5),s9] w'→∃ gf lb,s9=.func (.func gf) #[] lb∧(∀ args w,(callFunc gf args).run Tryz.prog w=.ok (.enter gf args) w) ∧
   ∀ (tmps:Array Value) (fid:FuncId),tmps.size=22→(∀ s v,(Env.puts (fun _=>none) [2,3,4,5,9] [.pointer (some s2),.pointer (some s3),.pointer (some s4),.pointer (some s5),s9]) s=some v→tmps.getD s undef=v.val) →
    Calls Tryz.prog gf (#[.func (.yield (w'.heap.size+1)) #[] #[]]++lb) ((w'.alloc (.deferred (some []))).alloc (.loop { state:=.ready,pending:=none,fn:=fid,tmps:=tmps,params:=#[10,11],assign:=(bH Tryz.f26).rgt.rgt.lft.rgt.inB.rAs,body:=(bH Tryz.f26).rgt.rgt.lft.rgt.inB.rBd,defers:=w'.heap.size })) fun e w3 =>
     ∃ v r,e=.returned v∧w3.heap[w'.heap.size+1]? = some (.loop r)∧r.state≠.busy ∧
      ((r.pending=none∧(mj s2 s3 s4 s5 s9).wp Tryz.prog (fun _=>True) (fun _ _ w5=>qK Tryz.prog #[.c (.pointer (some s2)) az,.c (.pointer (some s3)) ak,.c (.pointer (some s4)) bQ] w'.heap.size R w5) (fun _ _=>False) (w3.putObj (w'.heap.size+1) (.loop { r with state:=.exhausted }))) ∨
       (r.pending=some .ret∧qK Tryz.prog #[.c (.pointer (some s2)) az,.c (.pointer (some s3)) ak,.c (.pointer (some s4)) bQ] w'.heap.size R (w3.putObj (w'.heap.size+1) (.loop { r with state:=.exhausted }))))):Calls Tryz.prog nB #[.slice a0_b.1 a0_b.2.1 a0_b.2.2] w R:=by
 refine FE (args:=[.slice a0_b.1 a0_b.2.1 a0_b.2.2]) (c1:=(bH Tryz.f26).lft) (c2:=(bH Tryz.f26).rgt.lft) (c3:=(bH Tryz.f26).rgt.rgt.lft.lft) (c4:=(bH Tryz.f26).rgt.rgt.rgt) (asn:=(bH Tryz.f26).rgt.rgt.lft.rgt.inB.rAs) (bd:=(bH Tryz.f26).rgt.rgt.lft.rgt.inB.rBd) (bi:=0) (g:=9) (ps:=#[10,11]) (lo:=5) (slots:=[2,3,4,5,9]) (an1:=o7) (an2:=pg) (an3:=pC) (an4:=pS) (Mid:=Mid) Tryz.func26 rfl (Nat.le_of_ble_eq_true rfl) (by decide) (by kernel_rfl) ?_ ?_
 ·have e:=zg a0_b
  exact e▸h1
 ·intro vs w' hM
  obtain ⟨s2,s3,s4,s5,s9,rfl⟩:=hsh vs w' hM
  obtain ⟨gf,lb,hg,hc,hall⟩:=h2 s2 s3 s4 s5 s9 w' hM
  have er:Array.map (fL (Env.puts (fun _=>none) [2,3,4,5,9] [.pointer (some s2),.pointer (some s3),.pointer (some s4),.pointer (some s5),s9])) Tryz.f26.results=#[.c (.pointer (some s2)) az,.c (.pointer (some s3)) ak,.c (.pointer (some s4)) bQ]:=by kernel_rfl
  rw [er]
  subst hg
  refine ⟨gf,lb,rfl,hc,fun tmps fid h3 h4=>Calls.mono (hall tmps fid h3 h4) ?_⟩
  rintro e w3 ⟨v,r,h5,h6,h7,h8⟩
  refine ⟨v,r,h5,h6,h7,?_⟩
  rcases h8 with ⟨h8,h9⟩ | h8
  ·refine .inl ⟨h8,?_⟩
   rintro ⟨lo,hi,D,K,rd⟩ hlo hhi hrd
   obtain rfl:lo=5:=hlo
   obtain rfl:hi=22:=hhi
   obtain rfl:rd=none:=hrd
   have e4:=zx s2 s3 s4 s5 (.func (.func gf) #[] lb) D K
   exact e4▸h9
  ·exact .inr h8
end
end Go.Proofs.YtjlgcpgjdgeejaaGreatDoor
end

section
namespace Go.Proofs.YtjlgcpgjdgeejaaGreatDoor
open Go
set_option linter.unusedSimpArgs false
set_option linter.unusedVariables false
set_option linter.constructorNameAsVariable false
set_option maxRecDepth 100000
noncomputable abbrev Hy:Code:=(bH Tryz.f26).rgt.rgt.lft.rgt.inB.rAs
noncomputable abbrev GR:Code:=(bH Tryz.f26).rgt.rgt.lft.rgt.inB.rBd
noncomputable def eb (fid:Nat) (tmps:Array Value) (D:Nat) (s:LoopState) (p:Option Code):Loop:={ state:=s,pending:=p,fn:=fid,tmps:=tmps,params:=#[10,11],assign:=Hy,body:=GR,defers:=D }
noncomputable def ly (fid:Nat) (tmps:Array Value) (D:Nat) (fin:Option (Int × Int)):Obj:=.loop (eb fid tmps D (if fin.isSome then .done else .ready) (fin.map fun _=>.ret))
def eW (b2 b3 b4 b5:Nat) (fin:Option (Int × Int)) (sl:aI):al :=
 [(b2,aq az [.slice none 0 0]),(b3,aq ak [.int .i64 (fin.getD (0,0)).1]),(b4,aq bQ [.int .i64 (fin.getD (0,0)).2]),(b5,aq az [.slice sl.1 sl.2.1 sl.2.2])]
noncomputable def YI (l D b2 b3 b4 b5 fid:Nat) (tmps:Array Value):av Empty Lk where
 inv s H:=Fact.ex fun sl:aI=>Fact.ex fun K:al=>Fact.prop (H=(l,ly fid tmps D s.fin)::((D,.deferred (some []))::eW b2 b3 b4 b5 s.fin sl++K)∧Buf ae 4 sl (rows aO s.acc) K∧s.acc.length≤65537)
 err _ _:=False
theorem Ix {l D b2 b3 b4 b5 fid:Nat} {s9:Value} {tmps:Array Value} (hsz:tmps.size=22)
  (hag:∀ s v,(Env.puts (fun _=>none) [2,3,4,5,9] [.pointer (some ⟨b2,0,none⟩),.pointer (some ⟨b3,0,none⟩),.pointer (some ⟨b4,0,none⟩),.pointer (some ⟨b5,0,none⟩),s9]) s=some v→tmps.getD s undef=v.val) (t:Tok) (e:Int) :
  Meets PG (YI l D b2 b3 b4 b5 fid tmps) (aK (.func (.yield l) #[] #[]) #[.agg #[.int .i64 t.1,.string t.2.1,.int .i64 t.2.2.1,.int .i64 t.2.2.2.1],.int .i64 e]) tB (hU t e) aJ []:=by
 rintro r w F H ⟨acc,fin⟩ res hs hΓ ⟨sl,K,rfl,hB,hlen⟩ hsp
 cases fin with
 | some x=>simp [hU] at hs
 | none =>
 have hB:Buf ae 4 sl (rows aO acc) K:=hB
 have hlen:acc.length≤65537:=hlen
 have hl:w.heap[l]? = some (.loop (eb fid tmps D .ready none)):=hsp.own _ _ (List.mem_cons_self ..)
 have hrun:(aK (.func (.yield l) #[] #[]) #[.agg #[.int .i64 t.1,.string t.2.1,.int .i64 t.2.2.1,.int .i64 t.2.2.2.1],.int .i64 e]).run PG w =
   .ok (.round l fid ((#[10,11].zip #[.agg #[.int .i64 t.1,.string t.2.1,.int .i64 t.2.2.1,.int .i64 t.2.2.2.1],.int .i64 e]).foldl (fun t (p,v)=>t.setIfInBounds p v) tmps) Hy GR) w:=by
  have h1:=run_yield (P:=PG) (args:=#[.agg #[.int .i64 t.1,.string t.2.1,.int .i64 t.2.2.1,.int .i64 t.2.2.2.1],.int .i64 e]) hl rfl
  have h2:(aK (.func (.yield l) #[] #[]) #[.agg #[.int .i64 t.1,.string t.2.1,.int .i64 t.2.2.1,.int .i64 t.2.2.2.1],.int .i64 e]).run PG w=(Instr.yield l #[.agg #[.int .i64 t.1,.string t.2.1,.int .i64 t.2.2.1,.int .i64 t.2.2.2.1],.int .i64 e]).run PG w:=by
   simp [aK,Deferred.ofValue,invoke]
  rw [h2,h1]; rfl
 rw [hrun]
 show RoundIn Fence.wide 0 PG l fid _ Hy GR w _
 refine AV ⟨b2,0,none⟩ ⟨b3,0,none⟩ ⟨b4,0,none⟩ ⟨b5,0,none⟩ s9 t e hsz hag ?_
 unfold mh
 -- the loop's left sides
 refine e7 (J:=fun vs L'=>Fact.ex fun b6:Nat=>Fact.prop (vs=[.pointer (some ⟨b2,0,none⟩),.pointer (some ⟨b3,0,none⟩),.pointer (some ⟨b4,0,none⟩),.pointer (some ⟨b5,0,none⟩),.pointer (some ⟨b6,0,none⟩),.int .i64 e]∧L'=(b6,aq ae (aO t))::((l,ly fid tmps D none)::((D,.deferred (some []))::eW b2 b3 b4 b5 none sl++K)))) (Γ:=[]) ?_ (fun _ h=>nomatch h) hsp ?_
 ·refine a8 (bF (z:=[.int .i64 0,.string kE,.int .i64 0,.int .i64 0]) (by kernel_rfl)) ?_
  rintro _ _ _ ⟨b6,rfl,rfl,rfl⟩
  refine a8 (a6 (L1:=[]) (l:=[.int .i64 0,.string kE,.int .i64 0,.int .i64 0]) (T:=ae) (T0:=ae) (c:=true) rfl (by kernel_rfl) rfl (Nat.le_of_ble_eq_true rfl) (by simp [Value.cells,Value.oneCell'])) ?_
  rintro _ _ _ ⟨rfl,rfl⟩
  exact hZ fun F hF=>⟨b6,rfl,rfl⟩
 rintro vs L' F1 w1 hle1 ⟨b6,rfl,rfl⟩ hS1
 refine ⟨eb fid tmps D .ready none,hS1.own _ _ (List.mem_cons_of_mem _ (List.mem_cons_self ..)),rfl,⟨b2,0,none⟩,⟨b3,0,none⟩,⟨b4,0,none⟩,⟨b5,0,none⟩,⟨b6,0,none⟩,e,rfl,?_⟩
 have hS2:=Split.putObj (L1:=[(b6,aq ae (aO t))]) hS1 (.loop { eb fid tmps D .ready none with state:=.busy })
 unfold lL
 refine Fr (fun he=>?_) (fun he=>?_)
 ·-- an error
  have he':(e != 0)=true:=he
  have hres:res=.ok false { acc:=acc,fin:=some (t.pos,e) }:=by
   have:hU t e ⟨acc,none⟩=some (.ok false { acc:=acc,fin:=some (t.pos,e) }):=by simp only [hU]; rw [if_neg (by decide),if_pos he']
   rw [this] at hs; exact (Option.some.inj hs).symm
  subst hres
  refine rx (J:=fun i vs L'=>Fact.prop (i=1∧L'=(b6,aq ae (aO t))::(l,.loop { eb fid tmps D .ready none with state:=.busy })::((D,.deferred (some []))::eW b2 b3 b4 b5 (some (t.pos,e)) sl++K))) (Γ:=[]) ?_ (fun _ h=>nomatch h) hS2 ?_
  ·refine iy [(b6,aq ae (aO t))] (fun p hp=>by simp at hp; simp [hp]) ?_
   refine cC (t1:=tI) t.pos (bR (T0:=ae) (l:=aO t) (QRd.own (List.mem_cons_self ..)) (by kernel_rfl) rfl rfl) ?_
   refine wN (a6 (L1:=[(b6,aq ae (aO t)),(l,.loop { eb fid tmps D .ready none with state:=.busy }),(D,.deferred (some []))]) (L2:=[(b3,aq ak [.int .i64 0]),(b4,aq bQ [.int .i64 0]),(b5,aq az [.slice sl.1 sl.2.1 sl.2.2])]++K) (l:=[.slice none 0 0]) (T:=az) (T0:=az) (c:=false) rfl (by kernel_rfl) rfl (Nat.le_of_ble_eq_true rfl) (by simp [Value.cells,Value.oneCell'])) ?_
   rintro _ _ _ ⟨rfl,rfl⟩
   refine ⟨fun p hp=>by simp at hp; simp [hp],?_⟩
   refine wN (a6 (L1:=[(b6,aq ae (aO t)),(l,.loop { eb fid tmps D .ready none with state:=.busy }),(D,.deferred (some [])),(b2,aq az [.slice none 0 0])]) (L2:=[(b4,aq bQ [.int .i64 0]),(b5,aq az [.slice sl.1 sl.2.1 sl.2.2])]++K) (l:=[.int .i64 0]) (T:=ak) (T0:=ak) (c:=false) rfl (by kernel_rfl) rfl (Nat.le_of_ble_eq_true rfl) (by simp [Value.cells,Value.oneCell'])) ?_
   rintro _ _ _ ⟨rfl,rfl⟩
   refine ⟨fun p hp=>by simp at hp; simp [hp],?_⟩
   refine a8 (a6 (L1:=[(b6,aq ae (aO t)),(l,.loop { eb fid tmps D .ready none with state:=.busy }),(D,.deferred (some [])),(b2,aq az [.slice none 0 0]),(b3,aq ak [.int .i64 t.pos])]) (L2:=[(b5,aq az [.slice sl.1 sl.2.1 sl.2.2])]++K) (l:=[.int .i64 0]) (T:=bQ) (T0:=bQ) (c:=false) rfl (by kernel_rfl) rfl (Nat.le_of_ble_eq_true rfl) (by simp [Value.cells,Value.oneCell'])) ?_
   rintro _ _ _ ⟨rfl,rfl⟩
   exact wI fun F hF=>⟨rfl,rfl⟩
  ·rintro i vs L' F2 w2 hle2 ⟨rfl,rfl⟩ hS3
   refine ⟨{ eb fid tmps D .ready none with state:=.busy },hS3.own _ _ (List.mem_cons_of_mem _ (List.mem_cons_self ..)),?_⟩
   rw [if_neg (by decide)]
   have hS4:=Split.putObj (L1:=[(b6,aq ae (aO t))]) hS3 (ly fid tmps D (some (t.pos,e)))
   refine ⟨F2,hle1.trans hle2,_,[],false,rfl,⟨sl,K,rfl,hB,hlen⟩,?_,rfl,rfl⟩
   rw [List.append_nil]
   exact hS4.sub (List.sublist_cons_self ..)
 ·-- a token more
  have he':(e != 0)=false:=he
  by_cases hacc:acc.length≤65536
  case neg =>
   have:hU t e ⟨acc,none⟩=none:=by simp only [hU]; rw [if_neg (by decide),if_neg (by rw [he']; decide),if_neg hacc]
   rw [this] at hs; cases hs
  have hres:res=.ok true { acc:=acc++[t],fin:=none }:=by
   have:hU t e ⟨acc,none⟩=some (.ok true { acc:=acc++[t],fin:=none }):=by simp only [hU]; rw [if_neg (by decide),if_neg (by rw [he']; decide),if_pos hacc]
   rw [this] at hs; exact (Option.some.inj hs).symm
  subst hres
  have hsl:sl.2.1=acc.length:=by have h1:=hB.len; rw [ce dD] at h1; omega
  let HT:al:=[(b2,aq az [.slice none 0 0]),(b3,aq ak [.int .i64 0]),(b4,aq bQ [.int .i64 0])]
  let LB:al:=(b6,aq ae (aO t))::(l,.loop { eb fid tmps D .ready none with state:=.busy })::(D,.deferred (some []))::HT
  refine rx (J:=fun i vs L'=>Fact.ex fun sl':aI=>Fact.ex fun K':al=>Fact.prop (i=0∧Buf ae 4 sl' (rows aO (acc++[t])) K'∧L'.Perm (LB++(b5,aq az [.slice sl'.1 sl'.2.1 sl'.2.2])::K'))) (Γ:=[]) ?_ (fun _ h=>nomatch h) hS2 ?_
  ·refine a8 (cN (b1:=.slice) sl (Rd.own (show (b5,aq az [.slice sl.1 sl.2.1 sl.2.2])∈_ by simp [eW])) (by kernel_rfl) rfl rfl) ?_
   rintro _ _ _ ⟨rfl,rfl,rfl⟩
   refine a8 (ft (bs:=d3) t (Rd.own (List.mem_cons_self ..)) (by kernel_rfl) rfl rfl) ?_
   rintro _ _ _ ⟨rfl,rfl,rfl⟩
   refine a8 (kr (e:=ae) (size:=4) (z:=.agg #[.int .i64 0,.string kE,.int .i64 0,.int .i64 0]) (aO t) (by kernel_rfl) (by kernel_rfl) (by decide) (by decide) (by kernel_rfl)) ?_
   rintro _ _ _ ⟨bn,rfl,rfl,rfl⟩
   refine Ep (L':=K++(LB++[(b5,aq az [.slice sl.1 sl.2.1 sl.2.2])])) ?_ ?_
   ·show (K++(LB++[(b5,aq az [.slice sl.1 sl.2.1 sl.2.2])])).Perm ((LB++[(b5,aq az [.slice sl.1 sl.2.1 sl.2.2])])++K)
    exact List.perm_append_comm
   refine a8 (eM (L0:=LB++[(b5,aq az [.slice sl.1 sl.2.1 sl.2.2])]) (K:=K) (size:=4) (bytes:=40) (e:=ae) (m:=1) (news:=aO t) (by kernel_rfl) rfl hB (Rd.at (List.mem_cons_self ..)) rfl rfl rfl (by decide) (by simp [aO,HB.enc,B.enc,Value.oneCell']) (by omega) (by omega)) ?_
   rintro x _ _ ⟨K',rfl,rfl,hx,hb'⟩
   refine a8 (a6 (L1:=K'++LB) (L2:=[]) (l:=[.slice sl.1 sl.2.1 sl.2.2]) (T:=az) (T0:=az) (c:=false) (by simp) (by kernel_rfl) rfl (Nat.le_of_ble_eq_true rfl) (by simp [Value.cells,Value.oneCell'])) ?_
   rintro _ _ _ ⟨rfl,rfl⟩
   refine wI fun F hF=>⟨x,K',rfl,?_,?_⟩
   ·rw [lq]
    have:rows aO [t]=aO t:=by simp [rows]
    rw [this]; exact hb'
   ·show ((K'++LB)++[(b5,aq az [.slice x.1 x.2.1 x.2.2])]).Perm (LB++(b5,aq az [.slice x.1 x.2.1 x.2.2])::K')
    have h1:((K'++LB)++[(b5,aq az [.slice x.1 x.2.1 x.2.2])]).Perm ((LB++[(b5,aq az [.slice x.1 x.2.1 x.2.2])])++K'):=by
     rw [List.append_assoc]; exact List.perm_append_comm
    simpa [List.append_assoc] using h1
  ·rintro i vs L' F2 w2 hle2 ⟨sl',K',rfl,hB',hp⟩ hS3
   have hS3':=hS3.perm hp.symm
   refine ⟨{ eb fid tmps D .ready none with state:=.busy },hS3'.own _ _ (List.mem_cons_of_mem _ (List.mem_cons_self ..)),?_⟩
   rw [if_pos rfl]
   have hS4:=Split.putObj (L1:=[(b6,aq ae (aO t))]) (L2:=(D,.deferred (some []))::HT++(b5,aq az [.slice sl'.1 sl'.2.1 sl'.2.2])::K') (o:=.loop { eb fid tmps D .ready none with state:=.busy }) hS3' (ly fid tmps D none)
   refine ⟨F2,hle1.trans hle2,(l,ly fid tmps D none)::((D,.deferred (some []))::eW b2 b3 b4 b5 none sl'++K'),[],true,rfl,⟨sl',K',rfl,hB',by simp; omega⟩,?_,rfl,rfl⟩
   rw [List.append_nil]
   exact hS4.sub (List.sublist_cons_self ..)
abbrev tTok3:Ty:=.tup [.b .slice,.b (.int .i64),.b (.int .i64)]
def Ez (v:Sum (Int × Int) (List Tok)) (x:HC [.b .slice,.b (.int .i64),.b (.int .i64)]):Fact:=match v with
 | .inl p=>Fact.prop (x=((none,0,0),p.1,p.2,()))
 | .inr l=>Fact.ex fun sl:aI=>(Fact.prop (x=(sl,0,0,()))).both (Sl 4 aO sl l)
def m6 (b:ByteArray) {ε σ:Type}:Sp ε σ (Sum (Int × Int) (List Tok)):=fun st=>(fZ b).map fun v=>.ok v st
theorem Ge {w:World} {b1 b2 b3:Nat} {x:aI} {y z:Int} (h1:w.heap[b1]? = some (aq az [.slice x.1 x.2.1 x.2.2])) (h2:w.heap[b2]? = some (aq ak [.int .i64 y])) (h3:w.heap[b3]? = some (aq bQ [.int .i64 z])) :
  (cV #[.c (.pointer (some ⟨b1,0,none⟩)) az,.c (.pointer (some ⟨b2,0,none⟩)) ak,.c (.pointer (some ⟨b3,0,none⟩)) bQ]).run PG w=.ok (tTok3.enc (x,y,z,())) w:=by
 obtain ⟨n1,hs1⟩:=eQ (P:=PG) (t:=az) (by kernel_rfl)
 obtain ⟨n2,hs2⟩:=eQ (P:=PG) (t:=ak) (by kernel_rfl)
 obtain ⟨n3,hs3⟩:=eQ (P:=PG) (t:=bQ) (by kernel_rfl)
 have e1:(loadVar az ⟨b1,0,none⟩).run PG w=.ok (.slice x.1 x.2.1 x.2.2) w:=jx hs1 h1 rfl rfl
 have e2:(loadVar ak ⟨b2,0,none⟩).run PG w=.ok (.int .i64 y) w:=jx hs2 h2 rfl rfl
 have e3:(loadVar bQ ⟨b3,0,none⟩).run PG w=.ok (.int .i64 z) w:=jx hs3 h3 rfl rfl
 have:(cV #[.c (.pointer (some ⟨b1,0,none⟩)) az,.c (.pointer (some ⟨b2,0,none⟩)) ak,.c (.pointer (some ⟨b3,0,none⟩)) bQ]).run PG w=.ok (.tuple #[.slice x.1 x.2.1 x.2.2,.int .i64 y,.int .i64 z]) w:=by
  simp [cV,RV.sem,asAddr,e1,e2,e3]
 exact this
theorem G8 {ε σ:Type} (I:av ε σ) (sl:aI) (b:ByteArray) (hb:b.size≤17179869184):Meets PG I (aa nB #[.slice sl.1 sl.2.1 sl.2.2]) tTok3 (m6 b) Ez [ByF sl b,MxF]:=by
 intro r w F H st res hs hΓ hi hsp
 have hbF:=hΓ (ByF sl b) (List.mem_cons_self ..)
 have hmF:=hΓ MxF (List.mem_cons_of_mem _ (List.mem_cons_self ..))
 rw [eg Tryz.func26 rfl rfl]
 refine Calls.mono (zq sl (Mid:=fun vs w'=>∃ b2 b3 b4 b5 bb sl2 F',F.le F'∧vs=[.pointer (some ⟨b2,0,none⟩),.pointer (some ⟨b3,0,none⟩),.pointer (some ⟨b4,0,none⟩),.pointer (some ⟨b5,0,none⟩),.func (.func fh) #[] #[.pointer (some ⟨bb,0,none⟩)]] ∧
   F' bb=some (aq aC [.slice sl2.1 sl2.2.1 sl2.2.2])∧(ByF sl2 b).p F'∧Split r w' (eW b2 b3 b4 b5 none (none,0,0)++H) F')
  (R:=fun e w'=>match e with | .returned v=>Ends I tTok3 (pl Ez) r F res (.returned v) w' | _=>False) ?_ ?_ ?_) (fun e w' h=>by cases e<;>first | exact h | exact h.elim)
 ·rintro vs w' ⟨b2,b3,b4,b5,bb,sl2,F',_,rfl,_⟩; exact ⟨_,_,_,_,_,rfl⟩
 ·unfold mO
  refine e7 (J:=fun vs L'=>Fact.ex fun b2:Nat=>Fact.ex fun b3:Nat=>Fact.ex fun b4:Nat=>Fact.ex fun b5:Nat=>Fact.ex fun v:Value=>(Fact.prop (vs=[.pointer (some ⟨b2,0,none⟩),.pointer (some ⟨b3,0,none⟩),.pointer (some ⟨b4,0,none⟩),.pointer (some ⟨b5,0,none⟩),v]∧L'.Perm (eW b2 b3 b4 b5 none (none,0,0)++H))).both (HV b v)) (Γ:=[ByF sl b,MxF]) (L:=H) ?_ hΓ hsp ?_
  ·refine a8 (bF (z:=[.slice none 0 0]) (by kernel_rfl)) ?_
   rintro _ _ _ ⟨b2,rfl,rfl,rfl⟩
   refine a8 (bF (z:=[.int .i64 0]) (by kernel_rfl)) ?_
   rintro _ _ _ ⟨b3,rfl,rfl,rfl⟩
   refine a8 (bF (z:=[.int .i64 0]) (by kernel_rfl)) ?_
   rintro _ _ _ ⟨b4,rfl,rfl,rfl⟩
   refine a8 (bF (z:=[.slice none 0 0]) (by kernel_rfl)) ?_
   rintro _ _ _ ⟨b5,rfl,rfl,rfl⟩
   refine Ea (GD sl b hb) (by simp) fun v K=>sS (kp fun hK=>?_)
   have hK':K=[]:=hK
   subst hK'
   refine hZ fun F hF=>⟨b2,b3,b4,b5,v,⟨rfl,?_⟩,hF _ (List.mem_cons_self ..)⟩
   show ((b5,_)::(b4,_)::(b3,_)::(b2,_)::H).Perm ((b2,_)::(b3,_)::(b4,_)::(b5,_)::H)
   have h4:∀ (x1 x2 x3 x4:Nat × Obj),([x4,x3,x2,x1]++H).Perm ([x1,x2,x3,x4]++H):=fun x1 x2 x3 x4=>(List.reverse_perm [x1,x2,x3,x4]).append_right H
   exact h4 _ _ _ _
  ·rintro vs L' F' w' hle ⟨b2,b3,b4,b5,v,⟨rfl,hp⟩,bb,sl2,rfl,hat,hby⟩ hS
   exact ⟨b2,b3,b4,b5,bb,sl2,F',hle,rfl,hat,hby,hS.perm hp.symm⟩
 ·rintro s2 s3 s4 s5 s9 w1 ⟨b2,b3,b4,b5,bb,sl2,F1,hle1,hv,hat,hby,hS⟩
  simp only [List.cons.injEq,Value.pointer.injEq,Option.some.injEq,and_true] at hv
  obtain ⟨rfl,rfl,rfl,rfl,rfl⟩:=hv
  refine ⟨fh,#[.pointer (some ⟨bb,0,none⟩)],rfl,fun args w=>lZ Tryz.func70 rfl rfl,fun tmps fid hsz hag=>?_⟩
  have hD:Split r (w1.alloc (.deferred (some []))) ((w1.heap.size,.deferred (some []))::(eW b2 b3 b4 b5 none (none,0,0)++H)) F1:=hS.new _
  have hL:=hD.new (.loop (eb fid tmps w1.heap.size .ready none))
  rw [World.size_alloc] at hL
  have hS1:Split r ((w1.alloc (.deferred (some []))).alloc (.loop (eb fid tmps w1.heap.size .ready none))) (((w1.heap.size+1,ly fid tmps w1.heap.size none)::((w1.heap.size,.deferred (some []))::eW b2 b3 b4 b5 none (none,0,0)++[]))++H) F1:=by
   rw [List.append_nil]; exact hL
  have hm:=IL (YI (w1.heap.size+1) w1.heap.size b2 b3 b4 b5 fid tmps) b sl2 bb (.func (.yield (w1.heap.size+1)) #[] #[]) hU [] (Ix hsz hag)
  cases hall:kD hU b ⟨[],none⟩ with
  | none =>
   have:fZ b=none:=by simp only [fZ,hall]
   simp only [m6,this] at hs; cases hs
  | some res2 =>
  cases res2 with
  | err e=>exact e.elim
  | ok u st2 =>
  have h2:=hm (Split.give r H) _ F1 _ ⟨[],none⟩ _ hall (fun A hA=>by
   simp only [List.mem_cons,List.not_mem_nil,or_false] at hA
   rcases hA with rfl | rfl | rfl
   ·exact hat
   ·exact hby
   ·exact MxF.mono _ _ hle1 hmF) ⟨(none,0,0),[],rfl,Buf.nil _ _,Nat.zero_le _⟩ hS1.out
  ·rw [eg Tryz.func70 rfl rfl] at h2
   refine Calls.mono h2 fun e w3 he=>?_
   cases e with
   | panicked c=>obtain ⟨F',hle,H',K1,x,hv,_⟩:=he; cases hv
   | outgrown=>exact he.elim
   | returned v =>
   obtain ⟨F3,hle3,H',K1,x,hv,⟨sl3,K3,rfl,hB3,hlen3⟩,hS3,hK1,_⟩:=he
   have hK1':K1=[]:=hK1
   subst hK1'
   rw [List.append_nil] at hS3
   obtain ⟨acc,fin⟩:=st2
   have hS4:Split r w3 ((w1.heap.size+1,ly fid tmps w1.heap.size fin)::((w1.heap.size,.deferred (some []))::eW b2 b3 b4 b5 fin sl3++K3)++H) F3:=Split.back hS1 hS3
   have hl3:w3.heap[w1.heap.size+1]? = some (ly fid tmps w1.heap.size fin):=hS4.own _ _ (List.mem_cons_self ..)
   have hS5:∀ o,Split r (w3.putObj (w1.heap.size+1) o) ((w1.heap.size+1,o)::((w1.heap.size,.deferred (some []))::eW b2 b3 b4 b5 fin sl3++K3)++H) F3:=fun o =>
    Split.putObj (L1:=[]) (L2:=((w1.heap.size,.deferred (some []))::eW b2 b3 b4 b5 fin sl3++K3)++H) hS4 o
   have hres:∀ v,fZ b=some v→res=.ok v st:=fun v hv=>by
    simp only [m6,hv] at hs; exact (Option.some.inj hs).symm
   -- the results are read
   have fin3:∀ (v:Sum (Int × Int) (List Tok)) (o:Obj) (w5:World) (F5:Heap) (x:aI) (y z:Int),fZ b=some v→F3.le F5 →
     Split r w5 ((w1.heap.size+1,o)::((w1.heap.size,.deferred (some []))::([(b2,aq az [.slice x.1 x.2.1 x.2.2]),(b3,aq ak [.int .i64 y]),(b4,aq bQ [.int .i64 z]),(b5,aq az [.slice sl3.1 sl3.2.1 sl3.2.2])]++K3))++H) F5 →
     (∀ F6,F5.le F6→(∀ p∈K3,F6 p.1=some p.2)→(Ez v (x,y,z,())).p F6) →
     qK PG #[.c (.pointer (some ⟨b2,0,none⟩)) az,.c (.pointer (some ⟨b3,0,none⟩)) ak,.c (.pointer (some ⟨b4,0,none⟩)) bQ] w1.heap.size
      (fun e w'=>match e with | .returned v=>Ends I tTok3 (pl Ez) r F res (.returned v) w' | _=>False) w5:=by
    intro v o w5 F5 x y z hv hle5 hS6 hR
    refine ⟨hS6.own _ _ (List.mem_cons_of_mem _ (List.mem_cons_self ..)),?_⟩
    have hS7:=Split.putObj (L1:=[(w1.heap.size+1,o)]) hS6 (.deferred none)
    refine ⟨_,Ge (x:=x) (y:=y) (z:=z) (hS7.own _ _ (by simp)) (hS7.own _ _ (by simp)) (hS7.own _ _ (by simp)),?_⟩
    have hS8:Split r _ (K3++H) F5:=hS7.sub (H':=K3++H) (by
     show (K3++H).Sublist ([(w1.heap.size+1,o),(w1.heap.size,Obj.deferred none),(b2,aq az [.slice x.1 x.2.1 x.2.2]),(b3,aq ak [.int .i64 y]),(b4,aq bQ [.int .i64 z]),(b5,aq az [.slice sl3.1 sl3.2.1 sl3.2.2])]++K3++H)
     rw [List.append_assoc]
     exact List.sublist_append_right _ _)
    obtain ⟨F6,hle6,hK6,hS9⟩:=Split.freezeL K3 hS8
    refine ⟨F6,hle1.trans (hle3.trans (hle5.trans hle6)),?_⟩
    rw [hres v hv]
    refine ⟨H,[],(x,y,z,()),rfl,(I.inv st H).mono _ _ (hle1.trans (hle3.trans (hle5.trans hle6))) hi,by rw [List.append_nil]; exact hS9,rfl,hR F6 hle6 hK6⟩
   cases fin with
   | some pe =>
    have hval:fZ b=some (.inl pe):=by simp only [fZ,hall]
    refine ⟨v,eb fid tmps w1.heap.size .done (some .ret),rfl,hl3,fun h=>(by cases h),.inr ⟨rfl,?_⟩⟩
    exact fin3 (.inl pe) _ _ F3 (none,0,0) pe.1 pe.2 hval (Heap.le.refl _) (hS5 _) fun F6 _ _=>rfl
   | none =>
    have hval:fZ b=some (.inr acc):=by simp only [fZ,hall]
    refine ⟨v,eb fid tmps w1.heap.size .ready none,rfl,hl3,fun h=>(by cases h),.inl ⟨rfl,?_⟩⟩
    unfold mj
    refine e7 (J:=fun vs L'=>Fact.prop (L'=(w1.heap.size+1,.loop { eb fid tmps w1.heap.size .ready none with state:=.exhausted })::((w1.heap.size,.deferred (some []))::([(b2,aq az [.slice sl3.1 sl3.2.1 sl3.2.2]),(b3,aq ak [.int .i64 0]),(b4,aq bQ [.int .i64 0]),(b5,aq az [.slice sl3.1 sl3.2.1 sl3.2.2])]++K3))++H)) (Γ:=[]) ?_ (fun _ h=>nomatch h) (hS5 (.loop { eb fid tmps w1.heap.size .ready none with state:=.exhausted })) ?_
    ·refine a8 (cN (b1:=.slice) sl3 (Rd.own (show (b5,aq az [.slice sl3.1 sl3.2.1 sl3.2.2])∈_ by simp [eW])) (by kernel_rfl) rfl rfl) ?_
     rintro _ _ _ ⟨rfl,rfl,rfl⟩
     refine a8 (a6 (L1:=[(w1.heap.size+1,.loop { eb fid tmps w1.heap.size .ready none with state:=.exhausted }),(w1.heap.size,.deferred (some []))]) (L2:=[(b3,aq ak [.int .i64 0]),(b4,aq bQ [.int .i64 0]),(b5,aq az [.slice sl3.1 sl3.2.1 sl3.2.2])]++K3++H) (l:=[.slice none 0 0]) (T:=az) (T0:=az) (c:=false) rfl (by kernel_rfl) rfl (Nat.le_of_ble_eq_true rfl) (by simp [Value.cells,Value.oneCell'])) ?_
     rintro _ _ _ ⟨rfl,rfl⟩
     refine a8 (a6 (L1:=[(w1.heap.size+1,.loop { eb fid tmps w1.heap.size .ready none with state:=.exhausted }),(w1.heap.size,.deferred (some [])),(b2,aq az [.slice sl3.1 sl3.2.1 sl3.2.2])]) (L2:=[(b4,aq bQ [.int .i64 0]),(b5,aq az [.slice sl3.1 sl3.2.1 sl3.2.2])]++K3++H) (l:=[.int .i64 0]) (T:=ak) (T0:=ak) (c:=false) rfl (by kernel_rfl) rfl (Nat.le_of_ble_eq_true rfl) (by simp [Value.cells,Value.oneCell'])) ?_
     rintro _ _ _ ⟨rfl,rfl⟩
     refine a8 (a6 (L1:=[(w1.heap.size+1,.loop { eb fid tmps w1.heap.size .ready none with state:=.exhausted }),(w1.heap.size,.deferred (some [])),(b2,aq az [.slice sl3.1 sl3.2.1 sl3.2.2]),(b3,aq ak [.int .i64 0])]) (L2:=[(b5,aq az [.slice sl3.1 sl3.2.1 sl3.2.2])]++K3++H) (l:=[.int .i64 0]) (T:=bQ) (T0:=bQ) (c:=false) rfl (by kernel_rfl) rfl (Nat.le_of_ble_eq_true rfl) (by simp [Value.cells,Value.oneCell'])) ?_
     rintro _ _ _ ⟨rfl,rfl⟩
     exact hZ fun F hF=>rfl
    ·rintro vs L' F5 w5 hle5 hL5 hS6
     obtain rfl:L'=_:=hL5
     exact fin3 (.inr acc) _ w5 F5 sl3 0 0 hval hle5 hS6 fun F6 hle6 hK6=>⟨sl3,rfl,Buf.sl hB3 (by decide) rfl dD hK6⟩
end Go.Proofs.YtjlgcpgjdgeejaaGreatDoor
end

section
namespace Go.Proofs.YtjlgcpgjdgeejaaGreatDoor
open Go
set_option linter.unusedSimpArgs false
set_option linter.unusedVariables false
set_option linter.constructorNameAsVariable false
set_option maxRecDepth 100000
theorem IU {ε σ:Type} {I:av ε σ} {s0:Sem Next} {t:Ty} {x:t.den} (hm:Meets PG (I0:av ε Unit) s0 t (Pure.pure x:Sp ε Unit t.den) aJ []):Meets PG I s0 t (Pure.pure x) aJ []:=by
 intro r w F H st res hs hΓ hi hsp
 have h0:Split r w ([]++H) F:=hsp
 have hres:res=.ok x st:=(Option.some.inj hs).symm
 subst hres
 refine bJ ?_ ?_ _ (hm (Split.give r H) w F [] () (.ok x ()) rfl (fun _ h=>nomatch h) rfl h0.out)
 ·rintro v w' ⟨F',hle,H',K1,y,hv,hinv,hS,hK,hR⟩
  have hH:H'=[]:=hinv
  have hK':K1=[]:=hK
  subst hH; subst hK'
  have hS':Split r w' H F':=Split.back (L:=H) h0 hS
  exact ⟨F',hle,H,[],y,hv,(I.inv st H).mono _ _ hle hi,by rw [List.append_nil]; exact hS',rfl,hR⟩
 ·rintro c w' ⟨F',hle,H',K1,y,hv,_⟩; cases hv
theorem GL:E4:=by
 intro ε σ I s hl h
 refine IU ?_
 obtain ⟨n,hn⟩:=Option.isSome_iff_exists.1 h
 refine vr s (bc fun st=>?_)
 unfold j0
 refine bW (JQ s n hl hn) (fun _ h=>nomatch h) ?_
 have:rR s=n:=by simp [rR,hn]
 exact eF (t:=tI) (rR s) (by rw [this]; rfl) rfl
def dt (most:Int):List Tok→Nat→Int→Int→Int→Int × Int
 | [],_,_,d,f=>(d,f)
 | t::l,i,n,d,f =>
  let m:=if n+cH t > 0 then n+cH t else 0
  dt most l (i+1) m (if m > d then m else d) (if m > most∧f < 0 then (i:Int) else f)
theorem Iq (t:Tok):-1≤cH t∧cH t≤1:=by
 unfold cH
 repeat' split
 all_goals decide
abbrev Lj:Ty:=.tup [.b (.int .i64),.b (.int .i64)]
def fE (most:Int) (l:List Tok) (k:Nat) (n d f i:Int) {ε σ:Type}:Sp ε σ (HC [.b (.int .i64),.b (.int .i64)]):=fun st =>
 if 0≤n∧n≤i∧0≤i∧i≤l.length∧l.length - i.toNat+1=k then some (.ok ((dt most (l.drop i.toNat) i.toNat n d f).1,(dt most (l.drop i.toNat) i.toNat n d f).2,()) st) else none
theorem IT {ε:Type} (sl:aI) (l:List Tok) (hl:l.length≤1099511627776) (most:Int):Meets PG (I0:av ε Unit) (aa oE #[.slice sl.1 sl.2.1 sl.2.2,.int .i64 most]) Lj (Pure.pure ((dt most l 0 0 0 (-1)).1,(dt most l 0 0 0 (-1)).2,())) aJ [Sl 4 aO sl l]:=by
 refine C6 sl most (bc fun st=>?_)
 unfold oB
 refine pU (fun k (y:HC [.b (.int .i64),.b (.int .i64),.b (.int .i64),.b (.int .i64)])=>fE most l k y.1 y.2.1 y.2.2.1 y.2.2.2.1) (l.length+1) ((0:Int),(0:Int),(-1:Int),(0:Int),()) rfl ?_ (fun y st=>?_) fun k y st=>?_
 ·show _=fE most l (l.length+1) 0 0 (-1) 0 st
  simp only [fE]
  rw [if_pos (by omega)]; rfl
 ·show fE most l 0 y.1 y.2.1 y.2.2.1 y.2.2.2.1 st=none
  simp only [fE]
  rw [if_neg (by omega)]
 ·obtain ⟨(n:Int),(d:Int),(f:Int),(i:Int),⟨⟩⟩:=y
  show au _ _ _ _ _ _ _ _ (fE most l (k+1) n d f i st) _ _
  by_cases hg:0≤n∧n≤i∧0≤i∧i≤l.length∧l.length - i.toNat+1=k+1
  case neg=>exact cq (by simp only [fE]; rw [if_neg hg])
  obtain ⟨i,rfl⟩:=Int.eq_ofNat_of_zero_le hg.2.2.1
  have hdef:(fE most l (k+1) n d f (i:Int):Sp ε Unit _) st=some (.ok ((dt most (l.drop i) i n d f).1,(dt most (l.drop i) i n d f).2,()) st):=by
   simp only [fE]; rw [if_pos hg]; rfl
  rw [hdef]
  refine dd (φ:=sl.2.1=l.length) (fun F hF=>(hF (Sl 4 aO sl l) (by repeat (first | exact mz | apply ms))).1) fun hlen=>aD (fun h=>?_) (fun h=>?_)
  ·have hi:i < l.length:=rM hlen h
   refine dd (φ:=∃ a,sl.1=some a∧a.spot=none) (fun F hF=>Sl.addr (hF (Sl 4 aO sl l) (by repeat (first | exact mz | apply ms))) (by omega)) fun ⟨a,ha,hsp⟩=>?_
   have hget:l[i]? = some l[i]:=List.getElem?_eq_getElem hi
   refine bY (py (n:=4) (f:=aO) ha (fun F hF=>hF (Sl 4 aO sl l) (by repeat (first | exact mz | apply ms))) (by kernel_rfl) i rfl hi) ?_
   rintro _ _ _ ⟨rfl,rfl,rfl⟩
   refine bY (yJ (bs:=d3) (f:=aO) dD ha (fun F hF=>hF (Sl 4 aO sl l) (by repeat (first | exact mz | apply ms))) hget (by kernel_rfl) l[i] rfl) ?_
   rintro _ _ _ ⟨rfl,rfl,rfl⟩
   refine si l[i] fun b4=>m0 l[i] (List.mem_cons_self ..) ?_
   refine bW (Gy _ l[i]) (fun _ h=>nomatch h) ?_
   have ht:=Iq l[i]
   have hnl:n≤(i:Int):=hg.2.1
   rw [aS (n:=n+cH l[i]) (by omega) (by omega),aS (n:=(i:Int)+1) (by omega) (by omega)]
   have hdrop:l.drop i=l[i]::l.drop (i+1):=List.drop_eq_getElem_cons hi
   have next:∀ m d' f',m=(if n+cH l[i] > 0 then n+cH l[i] else 0)→d'=(if m > d then m else d)→f'=(if m > most∧f < 0 then (i:Int) else f) →
     some (Res.ok ((dt most (l.drop i) i n d f).1,(dt most (l.drop i) i n d f).2,()) st)=(fE most l k m d' f' ((i:Int)+1):Sp ε Unit _) st:=by
    intro m d' f' hm hd hf
    have e1:dt most (l.drop i) i n d f=dt most (l.drop (i+1)) (i+1) m d' f':=by
     rw [hdrop]
     show dt most (l.drop (i+1)) (i+1) (if n+cH l[i] > 0 then n+cH l[i] else 0) _ _=_
     rw [← hm,← hd,← hf]
    simp only [fE]
    rw [show ((i:Int)+1).toNat=i+1 by omega,e1,if_pos ?_]
    refine ⟨?_,?_,by omega,by omega,by have:=hg.2.2.2.2; simp only [Int.toNat_natCast] at this; omega⟩
    ·rw [hm]; split<;>omega
    ·rw [hm]; split<;>omega
   let M:Int:=if n+cH l[i] > 0 then n+cH l[i] else 0
   let D:Int:=if M > d then M else d
   refine vH (L':=[]) (List.nil_sublist _) (aD (fun h1=>?_) (fun h1=>?_))
   ·have h1':M > most:=of_decide_eq_true h1
    refine aD (fun h2=>?_) (fun h2=>?_)
    ·have h2':f < 0:=of_decide_eq_true h2
     refine gw (sp:=fun k (y:HC [.b (.int .i64),.b (.int .i64),.b (.int .i64),.b (.int .i64)])=>fE most l k y.1 y.2.1 y.2.2.1 y.2.2.2.1) (M,D,(i:Int),(i:Int)+1,()) cn rfl ?_
     exact next M D i rfl rfl (if_pos (c:=M > most∧f < 0) ⟨h1',h2'⟩).symm
    ·have h2':¬ f < 0:=of_decide_eq_false h2
     refine gw (sp:=fun k (y:HC [.b (.int .i64),.b (.int .i64),.b (.int .i64),.b (.int .i64)])=>fE most l k y.1 y.2.1 y.2.2.1 y.2.2.2.1) (M,D,f,(i:Int)+1,()) cn rfl ?_
     exact next M D f rfl rfl (if_neg (c:=M > most∧f < 0) (fun h=>h2' h.2)).symm
   ·have h1':¬ M > most:=of_decide_eq_false h1
    refine gw (sp:=fun k (y:HC [.b (.int .i64),.b (.int .i64),.b (.int .i64),.b (.int .i64)])=>fE most l k y.1 y.2.1 y.2.2.1 y.2.2.2.1) (M,D,f,(i:Int)+1,()) cn rfl ?_
    exact next M D f rfl rfl (if_neg (c:=M > most∧f < 0) (fun h=>h1' h.1)).symm
  ·have hi:¬ i < l.length:=sh hlen h
   have hd:l.drop i=[]:=List.drop_eq_nil_of_le (by omega)
   rw [hd]
   exact cY (t:=Lj) (d,f,()) (d,f,()) rfl (fun r w F H _ _=>by rw [il]; rfl) fun F hF=>rfl
def BF (t:Tok):Bool:=(t.kind != 3||(decide (t.text.size≤18)&&(Lib.atoi t.text.data.toList).isSome))&&decide (t.text.size≤4194304)
def Ig (l:List Tok):Bool:=decide (0 < l.length)&&decide (l.length≤1099511627776)&&l.all BF
theorem CX {t:Tok} (h:BF t=true):sy t:=by
 simp only [BF,Bool.and_eq_true,Bool.or_eq_true,decide_eq_true_eq] at h
 refine ⟨fun hk=>?_,h.2⟩
 rcases h.1 with h1 | h1
 ·rw [hk] at h1; exact absurd h1 (by decide)
 ·exact h1
theorem Hq {l:List Tok} (h:Ig l=true):(n4 l).ok:=by
 simp only [Ig,Bool.and_eq_true,decide_eq_true_eq] at h
 exact ⟨h.1.1,h.1.2,⟨fun h=>absurd (show (0:Int)=3 from h) (by decide),show (0:Nat)≤4194304 by decide⟩,fun t ht=>CX (List.all_eq_true.1 h.2 t ht)⟩
def iY (fuel:Nat) (b:ByteArray) (kind:Int):Option (Sum (Int × Int) (List FN)):=match fZ b with
 | none=>none
 | some (.inl p)=>if p.2 != 0 then some (.inl p) else none
 | some (.inr l) =>
  if Ig l then
   if decide ((dt 64 l 0 0 0 (-1)).2≥0) then (match l[(dt 64 l 0 0 0 (-1)).2.toNat]? with
    | some t=>some (.inl (t.pos,5))
    | none=>none)
   else match qa fuel l kind with
    | none=>none
    | some (.inl at_)=>some (.inl (at_,6))
    | some (.inr ns)=>some (.inr ns)
  else none
abbrev tWhole:Ty:=.tup [.agg [.slice],.b (.int .i64),.b (.int .i64)]
def CT (v:Sum (Int × Int) (List FN)) (x:tWhole.den) (K:al):Fact:=match v with
 | .inl p=>Fact.prop (x=(((none,0,0),()),p.1,p.2,())∧K=[])
 | .inr ns=>(Fact.prop (x.2=(0,0,()))).both (sR ns x.1 K)
def fk (fuel:Nat) (b:ByteArray) (kind:Int) {ε σ:Type}:Sp ε σ (Sum (Int × Int) (List FN)):=fun st=>(iY fuel b kind).map fun v=>.ok v st
theorem I8 {q:Quiet} {sl:aI} {l:List Tok} {a:Addr} {i:Nat} {t:Tok} (ha:sl.1=some a) (hs:a.spot=none) (hF:∀ F,Holds q.Γ F→(Sl 4 aO sl l).p F) (hg:l[i]? = some t) :
  mi PG q (ai ak (.pointer (some ⟨(a.add (i * 4)).block,(a.add (i * 4)).off+2,none⟩))) (.int .i64 t.pos):=by
 intro K hK _ w hw
 obtain ⟨a',cs,T0,h1,h2,h3,h4⟩:=Sl.elem dD (hF K hK) hg
 rw [ha] at h1; cases h1
 obtain ⟨x1,x2,x3⟩:=dx a hs (i * 4)
 refine kK (T0:=T0) (l:=cs) (by kernel_rfl) (by rw [show (⟨(a.add (i * 4)).block,(a.add (i * 4)).off+2,none⟩:Addr).block=a.block from x1]; exact hw _ _ h3) rfl ?_
 show cs[(a.add (i * 4)).off+2]? = _
 rw [x2]
 have e:((cs.drop (a.off+i * 4)).take 4)[2]? = (aO t)[2]?:=by rw [h4]
 rw [List.getElem?_take,if_pos (by decide),List.getElem?_drop] at e
 exact e
theorem sg {ε σ β:Type} {I:av ε σ} {Rel:β→tWhole.den→al→Fact} {Δ:Labels ε σ β} {md:cK} {L1 L2:al} {L:al} {Γ:List Fact} {st:σ} {run:Option (Res ε σ β)} {b1:Nat} {x0 x:aI} {y z:Int} (v:β) (K:al)
  (hL:L=L1++(b1,aq ap [.slice x0.1 x0.2.1 x0.2.2])::L2) (hK:K.Sublist (L1++(b1,aq ap [.slice x.1 x.2.1 x.2.2])::L2)) (hrun:run=some (.ok v st)) (h:∀ F,Holds Γ F→(Rel v ((x,()),y,z,()) K).p F) :
  au PG I tWhole Rel Δ md st (.op (aW ap (.pointer (some ⟨b1,0,none⟩)) (.agg #[.slice x.1 x.2.1 x.2.2])) tU fun _=>.ret #[.c (.pointer (some ⟨b1,0,none⟩)) ap,.v (.int .i64 y),.v (.int .i64 z)]) run L Γ:=by
 refine bY (a6 (L1:=L1) (L2:=L2) (l:=[.slice x0.1 x0.2.1 x0.2.2]) (T:=ap) (T0:=ap) (c:=true) hL (by kernel_rfl) rfl (Nat.le_of_ble_eq_true rfl) (by simp [Value.cells,Value.oneCell'])) ?_
 rintro _ _ _ ⟨rfl,rfl⟩
 refine nO v K ((x,()),y,z,()) hK hrun (fun r w F H hF hsp=>?_) h
 exact tL (a:=⟨b1,0,none⟩) (T0:=ap) (l:=[.slice x.1 x.2.1 x.2.2]) (vs:=[.slice x.1 x.2.1 x.2.2]) (by kernel_rfl) (hsp.own _ _ (List.mem_append_right _ (List.mem_append_right _ (List.mem_cons_self ..)))) rfl rfl
theorem D3 {ε σ:Type} (I:av ε σ) (fuel:Nat) (hfuel:fuel≤549755813888) (sl:aI) (b:ByteArray) (hb:b.size≤17179869184) (kind:Int) (hk:kind=0∨kind=1∨kind=2) :
  MeetsO PG I (aa jd #[.slice sl.1 sl.2.1 sl.2.2,.int .i64 kind]) tWhole (fk fuel b kind) CT [ByF sl b,MxF]:=by
 refine zj sl kind (bc fun st=>?_)
 unfold mN
 refine bY (bF (z:=[.slice none 0 0]) (by kernel_rfl)) ?_
 rintro _ _ _ ⟨b1,rfl,rfl,rfl⟩
 cases htok:fZ b with
 | none=>exact cq (by simp only [fk,iY,htok]; rfl)
 | some v =>
 refine fx (G8 I sl b hb) (fun A h=>h) (fun h=>by simp only [m6,htok] at h; cases h) (fun e h=>by simp only [m6,htok] at h; cases h) fun x v' st' h=>?_
 simp only [m6,htok,Option.map_some,Option.some.injEq,Res.ok.injEq] at h
 obtain ⟨rfl,rfl⟩:=h
 cases v with
 | inl p =>
  refine br fun F0 hx=>?_
  obtain rfl:x=((none,0,0),p.1,p.2,()):=hx
  cases hp:(p.2 != 0) with
  | false=>exact cq (by simp only [fk,iY,htok,hp]; rfl)
  | true =>
  refine aD (fun _=>?_) (fun h=>by cases h)
  exact sg (L1:=[]) (L2:=[]) (x0:=(none,0,0)) (x:=(none,0,0)) (.inl p) [] rfl (List.nil_sublist _) (by simp only [fk,iY,htok,hp]; rfl) fun F hF=>⟨rfl,rfl⟩
 | inr l =>
  refine GP fun sl2=>kg (br fun F0 hx=>?_)
  obtain rfl:x=(sl2,0,0,()):=hx
  refine aD (fun h=>by cases h) (fun _=>?_)
  cases hok:Ig l with
  | false=>exact cq (by simp only [fk,iY,htok,hok]; rfl)
  | true =>
  have hst:=Hq hok
  refine bW (IT sl2 l hst.2.1 64) (by simp) ?_
  have hW:(fk fuel b kind:Sp ε σ _) st=(if decide ((dt 64 l 0 0 0 (-1)).2≥0) then (match l[(dt 64 l 0 0 0 (-1)).2.toNat]? with
    | some t=>some (Sum.inl (t.pos,(5:Int)))
    | none=>none)
   else match qa fuel l kind with
    | none=>none
    | some (.inl at_)=>some (.inl (at_,6))
    | some (.inr ns)=>some (.inr ns)).map fun v=>.ok v st:=by simp only [fk,iY,htok,hok,if_true]
  rw [hW]
  refine aD (fun h=>?_) (fun h=>?_)
  ·have h':decide ((dt 64 l 0 0 0 (-1)).2≥0)=true:=h
   have h0:(0:Int)≤(dt 64 l 0 0 0 (-1)).2:=of_decide_eq_true h'
   rw [if_pos h']
   obtain ⟨i,hi⟩:=Int.eq_ofNat_of_zero_le h0
   rw [hi,Int.toNat_natCast]
   cases hg:l[i]? with
   | none=>exact cq rfl
   | some t =>
   have hlt:i < l.length:=(List.getElem?_eq_some_iff.1 hg).1
   refine dd (φ:=∃ a,sl2.1=some a∧a.spot=none) (fun F hF=>Sl.addr (hF (Sl 4 aO sl2 l) (by repeat (first | exact mz | apply ms))) (by omega)) fun ⟨a,ha,hsp⟩=>?_
   refine dv [] (fun _ h=>nomatch h) ?_
   refine Bd (t1:=tA) (a.add (i * 4)) (EH (n:=4) (f:=aO) dD ha (fun F hF=>hF (Sl 4 aO sl2 l) (by repeat (first | exact mz | apply ms))) (by kernel_rfl) i rfl hlt) ?_
   refine Bd (t1:=tI) t.pos (I8 ha hsp (fun F hF=>hF (Sl 4 aO sl2 l) (by repeat (first | exact mz | apply ms))) hg) ?_
   refine re (a6 (L1:=[]) (L2:=[]) (l:=[.slice none 0 0]) (T:=ap) (T0:=ap) (c:=true) rfl (by kernel_rfl) rfl (Nat.le_of_ble_eq_true rfl) (by simp [Value.cells,Value.oneCell'])) ?_
   rintro _ _ _ ⟨rfl,rfl⟩
   refine ⟨(fun _ h=>nomatch h),?_⟩
   refine nO (.inl (t.pos,5)) [] (((none,0,0),()),t.pos,5,()) (List.nil_sublist _) rfl (fun r w F H hF hsp=>?_) fun F hF=>⟨rfl,rfl⟩
   exact tL (a:=⟨b1,0,none⟩) (T0:=ap) (l:=[.slice none 0 0]) (vs:=[.slice none 0 0]) (by kernel_rfl) (hsp.own _ _ (List.mem_append_right _ (List.mem_cons_self ..))) rfl rfl
  ·have h':decide ((dt 64 l 0 0 0 (-1)).2≥0)=false:=h
   rw [if_neg (by rw [h']; decide)]
   refine pZ (K6 GL I fuel hfuel sl2 l hst kind hk) (by simp) (fun h=>?_) (fun e h=>?_) fun x v K st' h=>?_
   ·cases hr:qa fuel l kind with
    | none=>rfl
    | some v=>simp only [ie,hr] at h; cases h
   ·simp only [ie] at h
    split at h<;>cases h
   cases hr:qa fuel l kind with
   | none=>simp only [ie,hr] at h; cases h
   | some v2 =>
   simp only [ie,hr,Option.some.injEq,Res.ok.injEq] at h
   obtain ⟨rfl,rfl⟩:=h
   cases v2 with
   | inl y =>
    refine br fun F0 hx=>?_
    obtain ⟨rfl,rfl⟩:=hx
    refine bY (bF (z:=[.slice none 0 0]) (by kernel_rfl)) ?_
    rintro _ _ _ ⟨b9,rfl,rfl,rfl⟩
    refine bY (a6 (L1:=[]) (l:=[.slice none 0 0]) (T:=ap) (T0:=ap) (c:=true) rfl (by kernel_rfl) rfl (Nat.le_of_ble_eq_true rfl) (by simp [Value.cells,Value.oneCell'])) ?_
    rintro _ _ _ ⟨rfl,rfl⟩
    refine aD (fun _=>?_) (fun h=>by cases h)
    exact sg (L1:=[_]) (L2:=[]) (x0:=(none,0,0)) (x:=(none,0,0)) (.inl (y,6)) [] rfl (List.nil_sublist _) rfl fun F hF=>⟨rfl,rfl⟩
   | inr ns =>
    obtain ⟨⟨x,⟨⟩⟩,x2⟩:=x
    refine kg (br fun F0 hx=>?_)
    obtain rfl:x2=(0,true,()):=hx
    refine bY (bF (z:=[.slice none 0 0]) (by kernel_rfl)) ?_
    rintro _ _ _ ⟨b9,rfl,rfl,rfl⟩
    refine bY (a6 (L1:=[]) (l:=[.slice none 0 0]) (T:=ap) (T0:=ap) (c:=true) rfl (by kernel_rfl) rfl (Nat.le_of_ble_eq_true rfl) (by simp [Value.cells,Value.oneCell'])) ?_
    rintro _ _ _ ⟨rfl,rfl⟩
    refine aD (fun h=>by cases h) (fun _=>?_)
    refine bY (ft (bs:=[.slice]) (l:=[.slice x.1 x.2.1 x.2.2]) (T0:=ap) (x,()) (Rd.own (List.mem_cons_self ..)) (by kernel_rfl) rfl rfl) ?_
    rintro _ _ _ ⟨rfl,rfl,rfl⟩
    refine sg (L1:=(b9,aq ap [.slice x.1 x.2.1 x.2.2])::K) (L2:=[]) (x0:=(none,0,0)) (x:=x) (.inr ns) K rfl ?_ rfl fun F hF=>⟨rfl,hF (sR ns (x,()) K) (by repeat (first | exact mz | apply ms))⟩
    exact ((List.sublist_append_left K _).cons _)
theorem yF {ε σ:Type} {fuel:Nat} {b:ByteArray} {kind:Int} {st st':σ} {v:Sum (Int × Int) (List FN)} (h:(fk fuel b kind:Sp ε σ _) st=some (.ok v st')):st'=st:=by
 simp only [fk,Option.map_eq_some_iff] at h
 obtain ⟨_,_,h⟩:=h
 cases h; rfl
theorem EA {ε σ:Type} (I:av ε σ) (fuel:Nat) (hfuel:fuel≤549755813888) (sl:aI) (b:ByteArray) (hb:b.size≤17179869184):MeetsO PG I (aa kd #[.slice sl.1 sl.2.1 sl.2.2]) tWhole (fk fuel b 0) CT [ByF sl b,MxF]:=by
 refine uY sl (bc fun st=>?_)
 unfold jI
 refine bY (bF (z:=[.slice none 0 0]) (by kernel_rfl)) ?_
 rintro _ _ _ ⟨b1,rfl,rfl,rfl⟩
 refine pZ (D3 I fuel hfuel sl b hb 0 (.inl rfl)) (fun A h=>h) (fun h=>h) (fun e h=>h) fun x v K st' h=>?_
 obtain ⟨⟨x,⟨⟩⟩,y,z,⟨⟩⟩:=x
 rw [h]
 exact sg (L1:=K) (L2:=[]) (x0:=(none,0,0)) (x:=x) v K rfl (List.sublist_append_left _ _) (by rw [yF h]) fun F hF=>hF _ (List.mem_cons_self ..)
theorem Is {ε σ:Type} (I:av ε σ) (fuel:Nat) (hfuel:fuel≤549755813888) (sl:aI) (b:ByteArray) (hb:b.size≤17179869184):MeetsO PG I (aa nA #[.slice sl.1 sl.2.1 sl.2.2]) tWhole (fk fuel b 2) CT [ByF sl b,MxF]:=by
 refine Bk sl (bc fun st=>?_)
 unfold nJ
 refine bY (bF (z:=[.slice none 0 0]) (by kernel_rfl)) ?_
 rintro _ _ _ ⟨b1,rfl,rfl,rfl⟩
 refine pZ (D3 I fuel hfuel sl b hb 2 (.inr (.inr rfl))) (fun A h=>h) (fun h=>h) (fun e h=>h) fun x v K st' h=>?_
 obtain ⟨⟨x,⟨⟩⟩,y,z,⟨⟩⟩:=x
 rw [h]
 exact sg (L1:=K) (L2:=[]) (x0:=(none,0,0)) (x:=x) v K rfl (List.sublist_append_left _ _) (by rw [yF h]) fun F hF=>hF _ (List.mem_cons_self ..)
end Go.Proofs.YtjlgcpgjdgeejaaGreatDoor
end

section
namespace Go.Proofs.YtjlgcpgjdgeejaaGreatDoor
open Go
set_option linter.unusedVariables false
set_option maxRecDepth 100000
noncomputable section
def AW:An :=
 .s (.r [none]) (.s (.r [some ah,some ah,some (.tup [.agg [.slice],.b (.int .i64),.b (.int .i64)]),none,none,none,none,some tA,some tU,none,none]) (.s (.r [none,none,none,none,some ah,none,none,none,none,none,some ah,some tA,none,some tI,none,none,none,none,some ah,some tA,none,some tI,none,none,none,none,some ah,some tA,none,some tI,none,none,none]) (.x)))
def nH  : T :=
 .op (ar aC 5 #[(0,.int .u8 102),(1,.int .u8 40),(2,.int .u8 49),(3,.int .u8 41),(4,.int .u8 59)]) ah fun r1 =>
 .op (nR aC aC (.slice r1.1 r1.2.1 r1.2.2)) ah fun r2 =>
 .op (aa kd #[.slice r2.1 r2.2.1 r2.2.2]) (.tup [.agg [.slice],.b (.int .i64),.b (.int .i64)]) fun r3 =>
 .op (bj ap) tA fun r4 =>
 .op (aW ap (.pointer (some r4)) (.agg #[.slice r3.1.1.1 r3.1.1.2.1 r3.1.1.2.2])) tU fun _ =>
 .ite ((r3.2.2.1:Int)==0) (
 .op (ai aw (.pointer (some r4))) ah fun r6 =>
 .ite (((r6.2.1:Int):Int)==7) (
 .op (ai aw (.pointer (some r4))) ah fun r7 =>
 .op (aR aw (.slice r7.1 r7.2.1 r7.2.2) (.int .i64 1)) tA fun r8 =>
 .op (ai ak (.pointer (some r8))) tI fun r9 =>
 .ite ((r9:Int)==64) (
 .op (ai aw (.pointer (some r4))) ah fun r10 =>
 .op (aR aw (.slice r10.1 r10.2.1 r10.2.2) (.int .i64 2)) tA fun r11 =>
 .op (ai ak (.pointer (some r11))) tI fun r12 =>
 .ite ((r12:Int)==27) (
 .op (ai aw (.pointer (some r4))) ah fun r13 =>
 .op (aR aw (.slice r13.1 r13.2.1 r13.2.2) (.int .i64 6)) tA fun r14 =>
 .op (ai ak (.pointer (some ⟨r14.block,r14.off+2,none⟩))) tI fun r15 =>
 .ret #[.v (.bool ((r15:Int)==1))]) (
 .ret #[.v (.bool false)])) (
 .ret #[.v (.bool false)])) (
 .ret #[.v (.bool false)])) (
 .ret #[.v (.bool false)])
theorem CD  : bh Tryz.prog Tryz.f21 AW []=nH  := by kernel_rfl
theorem CQ {ε σ β:Type} {I:av ε σ} {t:Ty} {s:Sp ε σ β} {Rel:β→t.den→al→Fact} {Γ:List Fact}  (h:Sim Tryz.prog I t Rel noLabel none (nH ) s [] Γ):MeetsO Tryz.prog I (aa ib #[]) t s Rel Γ :=
 aj (args:=[]) Tryz.func21 rfl rfl (Nat.le_of_ble_eq_true rfl) (by rw [CD]; exact h)
def q8:An :=
 .s (.r [none]) (.s (.s (.j [(18,.b .bool)] (.r [none,none,none,none,none,none])) (.c (.s (.r [some tB,none]) (.x)) (.x))) (.s (.r [none]) (.s (.r [none]) (.s (.s (.r [none]) (.j [(5,.b .str),(6,.b .str)] (.b (.l [(5,.b .str),(6,.b .str),(7,.b (.int .i64))] (.s (.s (.r [none,none,none]) (.c (.x) (.x))) (.s (.b (.s (.r [none,some tS,none]) (.s (.r [none,some tS,none]) (.s (.r [none]) (.c (.r [none,some tS,none]) (.x)))))) (.r [none,none,none]))))))) (.s (.r [none,some tS,none,some tS,some ah,some (.tup [.agg [.slice],.b (.int .i64),.b (.int .i64)]),none,none,none,none,some tA,some tU,none,none]) (.s (.r [none]) (.s (.s (.r [none]) (.j [(11,.b (.int .i64))] (.b (.l [(11,.b (.int .i64)),(12,.b (.int .i64))] (.s (.s (.r [none,none,some ah,none,none]) (.c (.x) (.x))) (.s (.b (.s (.r [none,some ah,none,some tA,none,some tI,none]) (.c (.r [none,none,none]) (.x)))) (.r [none,none,none]))))))) (.s (.r [none,none,none,none,none,none,none,none,none,some (.c (.agg [.slice])),some tI,none,none,none,none,none,none,some tB,none,none]) (.x)))))))))
def hG (a0_a0:Int) (a1_a1:Bool):T :=
 .join 0 [.b .bool] (
 .ite (decide ((a0_a0:Int) < 0)) (
 .out 0 [.bool true]) (
 .out 0 [.bool (decide ((a0_a0:Int) > 40))])) fun x1 =>
 .ite x1.1 (
 .op (aa ib #[]) tB fun r2 =>
 .ret #[.v (.bool r2)]) (
 .join 0 [.b .str,.b .str] (
 .loop 1 [.b .str,.b .str,.b (.int .i64)] [.string kE,.string kE,.int .i64 0] fun x3 =>
 .ite (decide ((x3.2.2.1:Int) < a0_a0)) (
 .op (bT .add aF (.string x3.1) (.string kA_lt)) tS fun r4 =>
 .op (bT .add aF (.string x3.2.1) (.string k_gt)) tS fun r5 =>
 .ite a1_a1 (
 .op (bT .add aF (.string r5) (.string k_sp)) tS fun r6 =>
 .out 1 [.string r4,.string r6,.int .i64 (IntKind.i64.wrap (x3.2.2.1+1))]) (
 .out 1 [.string r4,.string r5,.int .i64 (IntKind.i64.wrap (x3.2.2.1+1))])) (
 .out 0 [.string x3.1,.string x3.2.1])) fun x7 =>
 .op (bT .add aF (.string x7.1) (.string kB)) tS fun r8 =>
 .op (bT .add aF (.string r8) (.string x7.2.1)) tS fun r9 =>
 .op (nR aF aC (.string r9)) ah fun r10 =>
 .op (aa nA #[.slice r10.1 r10.2.1 r10.2.2]) (.tup [.agg [.slice],.b (.int .i64),.b (.int .i64)]) fun r11 =>
 .op (bj ap) tA fun r12 =>
 .op (aW ap (.pointer (some r12)) (.agg #[.slice r11.1.1.1 r11.1.1.2.1 r11.1.1.2.2])) tU fun _ =>
 .join 0 [.b (.int .i64)] (
 .loop 1 [.b (.int .i64),.b (.int .i64)] [.int .i64 0,.int .i64 0] fun x14 =>
 .op (ai aw (.pointer (some r12))) ah fun r15 =>
 .ite (decide ((x14.2.1:Int) < (r15.2.1:Int))) (
 .op (ai aw (.pointer (some r12))) ah fun r16 =>
 .op (aR aw (.slice r16.1 r16.2.1 r16.2.2) (.int .i64 x14.2.1)) tA fun r17 =>
 .op (ai ak (.pointer (some r17))) tI fun r18 =>
 .ite ((r18:Int)==80) (
 .out 1 [.int .i64 (IntKind.i64.wrap (x14.1+1)),.int .i64 (IntKind.i64.wrap (x14.2.1+1))]) (
 .out 1 [.int .i64 x14.1,.int .i64 (IntKind.i64.wrap (x14.2.1+1))])) (
 .out 0 [.int .i64 x14.1])) fun x19 =>
 .ite ((r11.2.2.1:Int)==0) (
 .ite ((x19.1:Int)==(IntKind.i64.wrap (a0_a0+1))) (
 .op (ai ap (.pointer (some r12))) (.c (.agg [.slice])) fun r20 =>
 .op (aa nX #[.agg #[.slice r20.1.1 r20.1.2.1 r20.1.2.2]]) tI fun r21 =>
 .ite ((r21:Int)==(IntKind.i64.wrap ((IntKind.i64.wrap (2 * a0_a0))+1))) (
 .op (aa ib #[]) tB fun r22 =>
 .ret #[.v (.bool r22)]) (
 .ret #[.v (.bool false)])) (
 .ret #[.v (.bool false)])) (
 .ret #[.v (.bool false)]))
theorem rc (a0_a0:Int) (a1_a1:Bool):bh Tryz.prog Tryz.f12 q8 [.int .i64 a0_a0,.bool a1_a1]=hG a0_a0 a1_a1:=by kernel_rfl
theorem rq {ε σ β:Type} {I:av ε σ} {t:Ty} {s:Sp ε σ β} {Rel:β→t.den→al→Fact} {Γ:List Fact} (a0_a0:Int) (a1_a1:Bool) (h:Sim Tryz.prog I t Rel noLabel none (hG a0_a0 a1_a1) s [] Γ):MeetsO Tryz.prog I (aa lG #[.int .i64 a0_a0,.bool a1_a1]) t s Rel Γ :=
 aj (args:=[.int .i64 a0_a0,.bool a1_a1]) Tryz.func12 rfl rfl (Nat.le_of_ble_eq_true rfl) (by rw [rc]; exact h)
end
end Go.Proofs.YtjlgcpgjdgeejaaGreatDoor
end

section
namespace Go.Proofs.YtjlgcpgjdgeejaaGreatDoor
open Go
set_option linter.unusedSimpArgs false
set_option linter.unusedVariables false
set_option linter.constructorNameAsVariable false
set_option maxRecDepth 100000
theorem wk (w:World) (e:TypeId) (s:ByteArray):(Lib.bytesWorld w e s).heap=(w.drew.alloc (.cells (Lib.bytesCells w e s) e ((Lib.bytesCells w e s).size,(Lib.bytesCells w e s).size+1))).heap:=by
 have h1:(w.drew.alloc (.cells (Lib.bytesCells w e s) e)).heap=w.heap.push (.cells (Lib.bytesCells w e s) e):=rfl
 have h2:(w.drew.alloc (.cells (Lib.bytesCells w e s) e ((Lib.bytesCells w e s).size,(Lib.bytesCells w e s).size+1))).heap=w.heap.push (.cells (Lib.bytesCells w e s) e ((Lib.bytesCells w e s).size,(Lib.bytesCells w e s).size+1)):=rfl
 rw [h2]
 apply Array.ext_getElem?
 intro i
 simp only [Lib.bytesWorld,World.freeze]
 rw [if_neg (by decide)]
 simp only [h1,Array.getElem?_modify,Array.getElem?_push]
 by_cases hi:i=w.heap.size
 ·subst hi; simp
 ·rw [if_neg hi]
  simp [hi,Ne.symm hi]
theorem AN (w:World) (e:TypeId) (s:ByteArray) (i:Nat) (h:i < s.size):(Lib.bytesCells w e s)[0+i]? = some (.int .u8 (s[i].toNat:Int)):=by
 have h':i < s.data.size:=h
 simp only [Lib.bytesCells,Nat.zero_add]
 rw [Array.getElem?_append_left (by simpa using h'),Array.getElem?_map,Array.getElem?_eq_getElem h']
 rfl
theorem y4 {L:al} {Γ:List Fact} (s:ByteArray):Loc PG (nR aF aC (.string s)) ah L Γ fun y L' Γ'=>L'=L∧Γ'=ByF y s::Γ :=
 Loc.val fun r w F H hF hsp=>by
  have hrun:=Lib.run_convert_string_bytes (P:=PG) w aF aC aP s (u:=.string) (by kernel_rfl) (by kernel_rfl) (by kernel_rfl)
  have hs1:Split r w.drew (H++L) F:=hsp.drewn _ rfl rfl rfl rfl
  have hs2:=hs1.newF (.cells (Lib.bytesCells w aP s) aP ((Lib.bytesCells w aP s).size,(Lib.bytesCells w aP s).size+1))
  refine ⟨(some ⟨w.heap.size,0,none⟩,s.size,grownCap w s.size 0 aP),Lib.bytesWorld w aP s,L,_,F.ins w.heap.size _,.inl ?_,hs1.new_le (.cells (Lib.bytesCells w aP s) aP ((Lib.bytesCells w aP s).size,(Lib.bytesCells w aP s).size+1)),Holds.cons ?_ (hF.mono (hs1.new_le _)),?_,rfl,rfl⟩
  ·simp only [nR,cj,Sem.run_bind,hrun,Result.andThen_ok,Sem.run_pure]; rfl
  ·refine ⟨rfl,grownCap_ge w s.size 0 aP,?_⟩
   rcases Nat.eq_zero_or_pos s.size with h | h
   ·exact .inl h
   ·exact .inr ⟨⟨w.heap.size,0,none⟩,Lib.bytesCells w aP s,aP,((Lib.bytesCells w aP s).size,(Lib.bytesCells w aP s).size+1),rfl,rfl,by simp [Heap.ins],fun i hi=>AN w aP s i hi⟩
  ·exact hs2.drewn _ (wk w aP s) rfl rfl rfl
theorem Cm {α:Type} {f:α→List Value} (l:List α) {L:al} {Γ:List Fact} {t e:TypeId} {n size:Nat} {ps:Array (Nat × Value)} {z:Value} (ht:kI PG t=some (e,size)) (hz:(PG.info? e).bind (·.zero)=some z) (h0:0 < size) (h1:n * size≤10000) (hn:0 < n)
  (hf:Instr.fill (fun i=>some (i * size,size)) ((Array.range (n * size)).map (z.cells[· % z.cells.size]!)) ps.toList=some (rows f l).toArray) (hl:l.length=n) (hfl:∀ x,(f x).length=size) :
  Loc PG (ar t n ps) ah L Γ fun y L' Γ'=>y.2.1=n∧L'=L∧Γ'=Sl size f y l::Γ :=
 Loc.val fun r w F H hF hsp=>by
  have hp:0 < n * size:=Nat.mul_pos hn h0
  have hrun:=gm (P:=PG) (w:=w) (t:=t) (e:=e) (n:=n) (size:=size) (ps:=ps) (cells:=(rows f l).toArray) (zero:=z) ht (by omega) hz hf (by omega)
  refine ⟨(some ⟨w.heap.size,0,none⟩,n,n),w.alloc (aq e (rows f l)),L,_,F.ins w.heap.size (aq e (rows f l)),.inl ?_,hsp.new_le _,Holds.cons ?_ (hF.mono (hsp.new_le _)),hsp.newF _,rfl,rfl,rfl⟩
  ·have h3:(ar t n ps).run PG w=.ok (.value (.slice (some ⟨w.heap.size,0,none⟩) n n)) (w.alloc (aq e (rows f l))):=by simpa using hrun
   exact h3
  ·refine ⟨hl.symm,.inr ⟨⟨w.heap.size,0,none⟩,rows f l,e,rfl,rfl,by simp [Heap.ins],?_⟩⟩
   have:=ce hfl l
   rw [List.drop_zero,List.take_of_length_le (by omega)]
theorem HO {α:Type} {n:Nat} {f:α→List Value} {Γ:List Fact} {x:aI} {l:List α} {a:Addr} (hm:Sl n f x l∈Γ) (ha:x.1=some a) {t:TypeId} (ht:nv PG t=some n) {i:Int} (k:Nat) (hi:i=k) (hk:k < l.length) :
  PVal PG Γ (aR t (.slice x.1 x.2.1 x.2.2) (.int .i64 i)) (.pointer (some (a.add (k * n)))):=fun F hF w hw=>by
 have hl:=(hF _ hm).1
 rw [ha,fM ht (by omega) (by omega)]
 rw [hi]; rfl
theorem Ih {α:Type} {n:Nat} {f:α→List Value} (hf:∀ x,(f x).length=n) {Γ:List Fact} {x:aI} {l:List α} {a:Addr} (hm:Sl n f x l∈Γ) (ha:x.1=some a) {k:Nat} {y:α} (hy:l[k]? = some y) {T:TypeId} (hT:dc PG T=some true) {j:Nat} {v:Value} (hv:(f y)[j]? = some v) {b:Addr} (hb:b.block=(a.add (k * n)).block∧b.off=(a.add (k * n)).off+j∧b.spot=none) :
  PVal PG Γ (ai T (.pointer (some b))) v:=fun F hF w hw=>by
 obtain ⟨a',cs,T0,h1,h2,h3,h4⟩:=Sl.elem hf (hF _ hm) hy
 rw [ha] at h1; cases h1
 obtain ⟨x1,x2,x3⟩:=dx a h2 (k * n)
 have hj:j < n:=by
  rcases Nat.lt_or_ge j n with h | h
  ·exact h
  ·rw [List.getElem?_eq_none (by rw [hf]; exact h)] at hv; cases hv
 refine kK (T0:=T0) (l:=cs) hT (by rw [hb.1,x1]; exact hw _ _ h3) hb.2.2 ?_
 rw [hb.2.1,x2]
 have e:((cs.drop (a.off+k * n)).take n)[j]? = (f y)[j]?:=by rw [h4]
 rw [List.getElem?_take,if_pos hj,List.getElem?_drop] at e
 rw [e,hv]
section
variable {ε σ β:Type} {I:av ε σ} {t:Ty} {Rel:β→t.den→al→Fact} {Δ:Labels ε σ β} {md:cK} {L Lq:al} {Γ Γq:List Fact} {st:σ} {run:Option (Res ε σ β)}
theorem I9 {α:Type} {n:Nat} {f:α→List Value} {x:aI} {l:List α} {m:T} (hm:Sl n f x l∈Γ) (hk:0 < l.length) (h:∀ a,x.1=some a→a.spot=none→au PG I t Rel Δ md st m run L Γ):au PG I t Rel Δ md st m run L Γ :=
 dd (φ:=∃ a,x.1=some a∧a.spot=none) (fun F hF=>Sl.addr (hF _ hm) hk) fun ⟨a,h1,h2⟩=>h a h1 h2
theorem I6 {α:Type} {n:Nat} {f:α→List Value} (hf:∀ x,(f x).length=n) {x:aI} {l:List α} (hm:Sl n f x l∈Γ) {T1 T2:TypeId} (ht:nv PG T1=some n) (hT:dc PG T2=some true) {i:Int} (j:Nat) (hi:i=j) {y:α} (hy:l[j]? = some y) {b1:B} (v:b1.den) (hv:(f y)[0]? = some (b1.enc v)) {k:b1.den→T}
  (hk:au PG I t Rel Δ none st (k v) run L Γ):au PG I t Rel Δ md st (.op (aR T1 (.slice x.1 x.2.1 x.2.2) (.int .i64 i)) tA fun r=>.op (ai T2 (.pointer (some r))) (.c (.b b1)) k) run L Γ:=by
 have hj:j < l.length:=(List.getElem?_eq_some_iff.1 hy).1
 refine I9 hm (by omega) fun a ha hs=>cd (t1:=tA) (a.add (j * n)) (HO hm ha ht j hi hj) (cd (t1:=.c (.b b1)) v (Ih hf hm ha hy hT hv (rP hs _)) hk)
theorem Ln {α:Type} {n:Nat} {f:α→List Value} (hf:∀ x,(f x).length=n) {x:aI} {l:List α} (hm:Sl n f x l∈Γ) {T1 T2:TypeId} (ht:nv PG T1=some n) (hT:dc PG T2=some true) {i:Int} (j:Nat) (hi:i=j) {y:α} (hy:l[j]? = some y) {d:Nat} {b1:B} (v:b1.den) (hv:(f y)[d]? = some (b1.enc v)) {k:b1.den→T}
  (hk:au PG I t Rel Δ none st (k v) run L Γ):au PG I t Rel Δ md st (.op (aR T1 (.slice x.1 x.2.1 x.2.2) (.int .i64 i)) tA fun r=>.op (ai T2 (.pointer (some ⟨r.block,r.off+d,none⟩))) (.c (.b b1)) k) run L Γ:=by
 have hj:j < l.length:=(List.getElem?_eq_some_iff.1 hy).1
 refine I9 hm (by omega) fun a ha hs=>cd (t1:=tA) (a.add (j * n)) (HO hm ha ht j hi hj) (cd (t1:=.c (.b b1)) v (Ih hf hm ha hy hT hv ⟨rfl,rfl,rfl⟩) hk)
def u0 (es:List E):Fact:=⟨fun F=>∀ e∈es,(Sl 1 bS e.ks e.f.kids).p F,fun F F' hl h e he=>(Sl 1 bS e.ks e.f.kids).mono F F' hl (h e he)⟩
theorem Gg (l:List Int):l.map (Value.int .i64)=rows bS l:=by
 induction l with
 | nil=>rfl
 | cons x l ih=>rw [List.map_cons,eT,ih]; rfl
theorem TreeP.facts {es:List E} {x:aI} {K:al} {F:Heap} (h:TreeP es x K) (hK:∀ p∈K,F p.1=some p.2):(Sl 5 dJ x es).p F∧(u0 es).p F:=by
 obtain ⟨K0,rfl,hB,hE⟩:=h
 refine ⟨Buf.sl hB (by decide) rfl d7 fun p hp=>hK p (List.mem_append_left _ hp),fun e he=>?_⟩
 exact Buf.sl (hE e he) (by decide) (Gg _) kL fun p hp=>hK p (List.mem_append_right _ (List.mem_flatMap.2 ⟨e,he,hp⟩))
theorem Gk {m:T} {ns:List FN} {x:aI} {K:al} (h:∀ es,es.map (·.f)=ns→au PG I t Rel Δ none st m run L (Sl 5 dJ x es::u0 es::Γ)):au PG I t Rel Δ md st m run (K++L) (sR ns (x,()) K::Γ):=by
 refine f0 (GP fun es=>br fun F0 hx=>?_)
 obtain ⟨hns,hT⟩:=hx
 have hT':TreeP es x K:=hT
 refine ri K fun Γ' h1 h2=>?_
 refine vq (A:=u0 es) (fun F hF=>(hT'.facts fun p hp=>hF _ (h2 p hp)).2) (vq (A:=Sl 5 dJ x es) (fun F hF=>(hT'.facts fun p hp=>hF _ (List.mem_cons_of_mem _ (h2 p hp))).1) (rp (h es hns) fun A hA=>?_))
 rcases List.mem_cons.1 hA with rfl | hA
 ·exact List.mem_cons_self ..
 ·rcases List.mem_cons.1 hA with rfl | hA
  ·exact List.mem_cons_of_mem _ (List.mem_cons_self ..)
  ·exact List.mem_cons_of_mem _ (List.mem_cons_of_mem _ (h1 A hA))
end
theorem sX {t:TypeId} (x y:Int) (hy:y≠0) (w:World):(bT .rem t (.int .i64 x) (.int .i64 y)).run PG w=.ok (.value (.int .i64 (x.tmod y))) w:=by
 simp [bT,cj,eqGuard,binOp,Op.intDiv,hy]
def Gn (x:Option (Sum (Int × Int) (List FN))):Bool:=match x with
 | some (.inr ns)=>ns.length==7&&((ns[1]?.map fun n=>n.kind==64).getD false)&&((ns[2]?.map fun n=>n.kind==27).getD false)&&((ns[6]?.map fun n=>n.num==1).getD false)
 | _=>false
abbrev pK:ByteArray:=⟨#[102,40,49,41,59]⟩
theorem GI:Gn (iY 8 pK 0)=true:=by kernel_rfl
theorem Fl {ε σ β:Type} {I:av ε σ} {t:Ty} {Rel:β→t.den→al→Fact} {Δ:Labels ε σ β} {md:cK} {L:al} {Γ:List Fact} {st:σ} {run:Option (Res ε σ β)} {n:Nat} {ps:Array (Nat × Value)} {k:aI→T} (b:ByteArray) (hn:b.size=n) (h0:0 < n) (h1:n≤10000)
  (hf:Instr.fill (fun i=>some (i * 1,1)) ((Array.range (n * 1)).map ((Value.int .u8 0).cells[· % (Value.int .u8 0).cells.size]!)) ps.toList=some (rows dn b.data.toList).toArray)
  (hk:∀ y,au PG I t Rel Δ none st (k y) run L (ByF y b::Γ)):au PG I t Rel Δ md st (.op (ar aC n ps) ah fun r1=>.op (nR aC aC (.slice r1.1 r1.2.1 r1.2.2)) ah k) run L Γ:=by
 intro H r w F res S hs hΓ hsp hq
 have hrun:=gm (P:=PG) (w:=w) (t:=aC) (e:=aP) (n:=n) (size:=1) (ps:=ps) (cells:=(rows dn b.data.toList).toArray) (zero:=.int .u8 0) (by kernel_rfl) (by omega) (by kernel_rfl) hf (by omega)
 have e1:PG.underlying aC=some (.slice aP):=by kernel_rfl
 have e2:PG.underlying aP=some (.int .u8):=by kernel_rfl
 have hrun1:(ar aC n ps).run PG w=.ok (.value (.slice (some ⟨w.heap.size,0,none⟩) n n)) (w.alloc (aq aP (rows dn b.data.toList))):=by simpa using hrun
 let C:Array Value:=(rows dn b.data.toList).toArray
 have hC:C.size=n:=by show (rows dn b.data.toList).toArray.size=n; rw [List.size_toArray,m2,hn]
 have hrun2:(nR aC aC (.slice (some ⟨w.heap.size,0,none⟩) n n)).run PG (w.alloc (aq aP (rows dn b.data.toList)))=.ok (.value (.slice (some ⟨w.heap.size,0,none⟩) n n)) (w.alloc (.cells C aP (C.size,C.size+1))):=by
  have h3:=Lib.run_convert_bytes_const (P:=PG) w aC aP C n n e1 e2
  simp only [nR,cj,Sem.run_bind]
  have h4:(w.alloc (aq aP (rows dn b.data.toList)))=w.alloc (.cells C aP):=rfl
  rw [h4,h3]; rfl
 simp only [T.wp,hrun1]
 refine ⟨(some ⟨w.heap.size,0,none⟩,n,n),rfl,?_⟩
 show fd _ _ _ ((nR aC aC (.slice (some ⟨w.heap.size,0,none⟩) n n)).run PG (w.alloc (aq aP (rows dn b.data.toList))))
 rw [hrun2]
 refine ⟨(some ⟨w.heap.size,0,none⟩,n,n),rfl,?_⟩
 have hle:=hsp.new_le (.cells C aP (C.size,C.size+1))
 refine dI hle (hk _ H r _ _ res S hs (Holds.cons ((I.inv st H).mono _ _ hle (hΓ _ (List.mem_cons_self ..))) (Holds.cons ?_ (Holds.mono (fun A hA=>hΓ A (List.mem_cons_of_mem _ hA)) hle))) (hsp.newF _) trivial)
 refine ⟨hn.symm,Nat.le_refl _,.inr ⟨⟨w.heap.size,0,none⟩,C,aP,(C.size,C.size+1),rfl,rfl,by simp [Heap.ins],fun i hi=>?_⟩⟩
 have h8:=m9 ol b.data.toList i b[i] (EW b i hi)
 have h9:(((rows dn b.data.toList).drop (i * 1)).take 1)[0]? = (dn b[i])[0]?:=by rw [h8]
 rw [List.getElem?_take,if_pos (by decide),List.getElem?_drop,Nat.mul_one,Nat.add_zero] at h9
 show (rows dn b.data.toList).toArray[0+i]? = _
 rw [Nat.zero_add,List.getElem?_toArray,h9]
 rfl
theorem HZ {es:List E} {ns:List FN} (h:es.map (·.f)=ns) {i:Nat} {f:FN} (hi:ns[i]? = some f):∃ e,es[i]? = some e∧e.f=f:=by
 rw [← h,List.getElem?_map,Option.map_eq_some_iff] at hi
 exact hi
theorem Ip {ε:Type}:Meets PG (I0:av ε Unit) (aa ib #[]) tB (Pure.pure true) aJ [MxF]:=by
 refine CQ (bc fun st=>?_)
 unfold nH
 refine Fl pK rfl (by decide) (by decide) (by kernel_rfl) fun y=>?_
 have hk:=GI
 cases hw:iY 8 pK 0 with
 | none=>rw [hw] at hk; cases hk
 | some v =>
 cases v with
 | inl p=>rw [hw] at hk; cases hk
 | inr ns =>
 rw [hw] at hk
 simp only [Gn,Bool.and_eq_true] at hk
 obtain ⟨⟨⟨h7,h1⟩,h2⟩,h6⟩:=hk
 have hlen:ns.length=7:=eq_of_beq h7
 have hP:(fk 8 pK 0:Sp ε Unit _) ()=some (.ok (.inr ns) ()):=by simp only [fk,hw]; rfl
 refine pZ (EA I0 8 (by decide) y pK (by decide)) (by simp) (fun h=>by rw [hP] at h; cases h) (fun e h=>by rw [hP] at h; cases h) fun x v K st' h=>?_
 rw [hP] at h
 obtain rfl:v=.inr ns:=by cases h; rfl
 obtain ⟨⟨sl,⟨⟩⟩,x2⟩:=x
 refine kg (br fun F0 hx=>?_)
 obtain rfl:x2=(0,0,()):=hx
 refine Gk fun es hes=>?_
 have hle:es.length=7:=by rw [← hlen,← hes,List.length_map]
 refine bY (bF (z:=[.slice none 0 0]) (by kernel_rfl)) ?_
 rintro _ _ _ ⟨b4,rfl,rfl,rfl⟩
 refine bY (a6 (L1:=[]) (l:=[.slice none 0 0]) (T:=ap) (T0:=ap) (c:=true) rfl (by kernel_rfl) rfl (Nat.le_of_ble_eq_true rfl) (by simp [Value.cells,Value.oneCell'])) ?_
 rintro _ _ _ ⟨rfl,rfl⟩
 have hl:∀ F,Holds (Sl 5 dJ sl es::u0 es::[ByF y pK,MxF]) F→sl.2.1=7:=fun F hF=>by rw [(hF (Sl 5 dJ sl es) (List.mem_cons_self ..)).1,hle]
 have hfin:∀ (st':Unit),(Pure.pure true:Sp ε Unit Bool) st=some (.ok true st'):=fun _=>rfl
 refine aD (fun _=>?_) (fun h=>by cases h)
 refine eL (b1:=.slice) sl (List.mem_cons_self ..) (by kernel_rfl) rfl rfl ?_
 refine dd hl fun hl=>aD (fun _=>?_) (fun h=>by have h':((sl.2.1:Int)==7)=false:=h; rw [hl] at h'; cases h')
 have get:∀ (i:Nat) (p:FN→Bool),((ns[i]?.map p).getD false)=true→∃ e,es[i]? = some e∧p e.f=true:=fun i p h=>by
  cases hn:ns[i]? with
  | none=>rw [hn] at h; cases h
  | some f =>
   rw [hn] at h
   obtain ⟨e,h3,h4⟩:=HZ hes hn
   exact ⟨e,h3,by rw [h4]; exact h⟩
 obtain ⟨e1,g1,p1⟩:=get 1 _ h1
 obtain ⟨e2,g2,p2⟩:=get 2 _ h2
 obtain ⟨e6,g6,p6⟩:=get 6 _ h6
 refine eL (b1:=.slice) sl (List.mem_cons_self ..) (by kernel_rfl) rfl rfl ?_
 refine I6 (b1:=.int .i64) d7 (List.mem_cons_self ..) (by kernel_rfl) (by kernel_rfl) 1 rfl g1 e1.f.kind rfl (aD (fun _=>?_) (fun h=>by have h':(e1.f.kind==64)=false:=h; rw [h'] at p1; cases p1))
 refine eL (b1:=.slice) sl (List.mem_cons_self ..) (by kernel_rfl) rfl rfl ?_
 refine I6 (b1:=.int .i64) d7 (List.mem_cons_self ..) (by kernel_rfl) (by kernel_rfl) 2 rfl g2 e2.f.kind rfl (aD (fun _=>?_) (fun h=>by have h':(e2.f.kind==27)=false:=h; rw [h'] at p2; cases p2))
 refine eL (b1:=.slice) sl (List.mem_cons_self ..) (by kernel_rfl) rfl rfl ?_
 refine Ln (b1:=.int .i64) d7 (List.mem_cons_self ..) (by kernel_rfl) (by kernel_rfl) 6 rfl g6 e6.f.num rfl ?_
 exact eF (t:=tB) true (by rw [show ((e6.f.num:Int)==1)=true from p6]; rfl) rfl
end Go.Proofs.YtjlgcpgjdgeejaaGreatDoor
end

section
namespace Go.Proofs.YtjlgcpgjdgeejaaGreatDoor
open Go
set_option linter.unusedSimpArgs false
set_option linter.unusedVariables false
set_option linter.constructorNameAsVariable false
set_option maxRecDepth 1000000
end Go.Proofs.YtjlgcpgjdgeejaaGreatDoor
end

section
namespace Go.Proofs.YtjlgcpgjdgeejaaGreatDoor
open Go
set_option linter.unusedSimpArgs false
set_option linter.unusedVariables false
set_option linter.constructorNameAsVariable false
set_option maxRecDepth 1000000
theorem vK {ε σ β:Type} {P:Program} {I:av ε σ} {t:Ty} {Rel:β→t.den→al→Fact} {Δ:Labels ε σ β} {L Lq:al} {Γ Γq:List Fact} {st:σ} {run:Option (Res ε σ β)} {T1 T0:TypeId} {a:Addr} {b1:B} {l:List Value} {k:b1.den→T} (x:b1.den) (hr:(a.block,aq T0 l)∈Lq) (hs:dc P T1=some true) (ha:a.spot=none) (hv:l[a.off]? = some (b1.enc x))
  (hk:au P I t Rel Δ (some (Γq,Lq)) st (k x) run L Γ):au P I t Rel Δ (some (Γq,Lq)) st (.opq (ai T1 (.pointer (some a))) (.c (.b b1)) k) run L Γ:=Bd (t1:=.c (.b b1)) x (bR (QRd.own hr) hs ha hv) hk
end Go.Proofs.YtjlgcpgjdgeejaaGreatDoor
end

section
namespace Go.Proofs.YtjlgcpgjdgeejaaGreatDoor
open Go
set_option linter.unusedSimpArgs false
set_option linter.unusedVariables false
set_option linter.constructorNameAsVariable false
set_option maxRecDepth 100000
def Rw {α:Type} (n:Nat) (f:α→List Value) (x:aI) (l:List α):Fact where
 p F:=x.2.1=l.length∧(l=[]∨∃ a c T0 fr,x.1=some a∧a.spot=none∧F a.block=some (.cells c T0 fr)∧∀ i y,l[i]? = some y→∀ j,j < n→c[a.off+i * n+j]? = (f y)[j]?)
 mono F F' hl h:=⟨h.1,h.2.imp id fun ⟨a,c,T0,fr,h1,h2,h3,h4⟩=>⟨a,c,T0,fr,h1,h2,hl _ _ h3,h4⟩⟩
theorem Sl.rw {α:Type} {n:Nat} {f:α→List Value} (hf:∀ x,(f x).length=n) {x:aI} {l:List α} {F:Heap} (h:(Sl n f x l).p F):(Rw n f x l).p F:=by
 refine ⟨h.1,?_⟩
 cases l with
 | nil=>exact .inl rfl
 | cons y0 l0 =>
  right
  obtain ⟨a,cs,T0,h1,h2,h3,_⟩:=Sl.elem hf h (show (y0::l0)[0]? = some y0 from rfl)
  refine ⟨a,cs.toArray,T0,(0,0),h1,h2,h3,fun i y hy j hj=>?_⟩
  obtain ⟨a',cs',T1,g1,g2,g3,g4⟩:=Sl.elem hf h hy
  rw [h1] at g1; cases g1
  rw [h3] at g3
  have:cs=cs':=by
   have h5:=Option.some.inj g3
   have h6:cs=cs'∧T0=T1:=by simpa [aq] using h5
   exact h6.1
  subst this
  have e:((cs.drop (a.off+i * n)).take n)[j]? = (f y)[j]?:=by rw [g4]
  rw [List.getElem?_take,if_pos hj,List.getElem?_drop] at e
  rw [List.getElem?_toArray]
  exact e
theorem Rw.addr {α:Type} {n:Nat} {f:α→List Value} {x:aI} {l:List α} {F:Heap} (h:(Rw n f x l).p F) (hl:0 < l.length):∃ a,x.1=some a∧a.spot=none:=by
 rcases h.2 with h | ⟨a,_,_,_,h1,h2,_⟩
 ·subst h; exact absurd hl (by simp)
 ·exact ⟨a,h1,h2⟩
theorem Rw.cell {α:Type} {n:Nat} {f:α→List Value} {x:aI} {l:List α} {F:Heap} {a:Addr} {w:World} (h:(Rw n f x l).p F) (ha:x.1=some a) (hw:Stab F w) {i:Nat} {y:α} (hy:l[i]? = some y) {j:Nat} (hj:j < n) {b:Addr} (hb:b.block=(a.add (i * n)).block∧b.off=(a.add (i * n)).off+j∧b.spot=none):w.cell? b=(f y)[j]?:=by
 rcases h.2 with h | ⟨a',c,T0,fr,h1,h2,h3,h4⟩
 ·subst h; simp at hy
 ·rw [ha] at h1; cases h1
  obtain ⟨x1,x2,x3⟩:=dx a h2 (i * n)
  simp only [World.cell?,hb.1,x1,hw _ _ h3,hb.2.1,x2,hb.2.2]
  exact h4 i y hy j hj
theorem rH {α:Type} {n:Nat} {f:α→List Value} {Γ:List Fact} {x:aI} {l:List α} {a:Addr} (hm:Rw n f x l∈Γ) (ha:x.1=some a) {t:TypeId} (ht:nv PG t=some n) {i:Int} (k:Nat) (hi:i=k) (hk:k < l.length) :
  PVal PG Γ (aR t (.slice x.1 x.2.1 x.2.2) (.int .i64 i)) (.pointer (some (a.add (k * n)))):=fun F hF w hw=>by
 have hl:=(hF _ hm).1
 rw [ha,fM ht (by omega) (by omega)]
 rw [hi]; rfl
theorem vR {α:Type} {n:Nat} {f:α→List Value} {Γ:List Fact} {x:aI} {l:List α} {a:Addr} (hm:Rw n f x l∈Γ) (ha:x.1=some a) {k:Nat} {y:α} (hy:l[k]? = some y) {T:TypeId} (hT:dc PG T=some true) {j:Nat} (hj:j < n) {v:Value} (hv:(f y)[j]? = some v) {b:Addr} (hb:b.block=(a.add (k * n)).block∧b.off=(a.add (k * n)).off+j∧b.spot=none) :
  PVal PG Γ (ai T (.pointer (some b))) v:=fun F hF w hw=>by
 refine DS hT ?_
 rw [Rw.cell (hF _ hm) ha hw hy hj hb,hv]
theorem JJ {α:Type} {n:Nat} {f:α→List Value} (hf:∀ x,(f x).length=n) {Γ:List Fact} {x:aI} {l:List α} {a:Addr} (hm:Rw n f x l∈Γ) (ha:x.1=some a) (hs:a.spot=none) {k:Nat} {y:α} (hy:l[k]? = some y) {T:TypeId} (hT:ci PG T=some (true,n)) :
  PVal PG Γ (ai T (.pointer (some (a.add (k * n))))) (.agg (f y).toArray):=fun F hF w hw=>by
 have hc:(loadCells (a.add (k * n)) n).run PG w=.ok (f y).toArray w:=by
  have h1:=run_loadCells_list (P:=PG) w (a.add (k * n)) (f y) fun j u hj=>by
   have hlt:j < n:=by
    rcases Nat.lt_or_ge j n with h | h
    ·exact h
    ·rw [List.getElem?_eq_none (by rw [hf]; exact h)] at hj; cases hj
   obtain ⟨x1,x2,x3⟩:=dx a hs (k * n)
   obtain ⟨y1,y2,y3⟩:=dx (a.add (k * n)) x3 j
   rw [Rw.cell (hF _ hm) ha hw hy hlt ⟨y1,y2,y3⟩,hj]
  rw [hf] at h1
  exact h1
 simp [ai,cj,Instr.loadAt,Instr.sureAddr,loadVar,(dk hT).1,(dk hT).2,hc]
theorem HY {Γ:List Fact} {b:Nat} {T0 T:TypeId} {l:List Value} (hm:Fact.at b (aq T0 l)∈Γ) (hT:dc PG T=some true) {o:Nat} {v:Value} (hv:l[o]? = some v):PVal PG Γ (ai T (.pointer (some ⟨b,o,none⟩))) v:=fun F hF w hw =>
 kK hT (hw b _ (hF _ hm)) rfl hv
theorem FQ {Γ:List Fact} {b:Nat} {T0 T:TypeId} {l vs:List Value} (hm:Fact.at b (aq T0 l)∈Γ) (hT:ci PG T=some (true,vs.length)) {o:Nat} (hv:(l.drop o).take vs.length=vs):PVal PG Γ (ai T (.pointer (some ⟨b,o,none⟩))) (.agg vs.toArray):=fun F hF w hw =>
 pf hT (hw b _ (hF _ hm)) rfl hv
section
variable {ε σ β:Type} {I:av ε σ} {t:Ty} {Rel:β→t.den→al→Fact} {Δ:Labels ε σ β} {md:cK} {L Lq:al} {Γ Γq:List Fact} {st:σ} {run:Option (Res ε σ β)}
theorem CF {α:Type} {n:Nat} {f:α→List Value} {x:aI} {l:List α} {m:T} (hm:Rw n f x l∈Γ) (hk:0 < l.length) (h:∀ a,x.1=some a→a.spot=none→au PG I t Rel Δ md st m run L Γ):au PG I t Rel Δ md st m run L Γ :=
 dd (φ:=∃ a,x.1=some a∧a.spot=none) (fun F hF=>Rw.addr (hF _ hm) hk) fun ⟨a,h1,h2⟩=>h a h1 h2
theorem Co {α:Type} {n:Nat} {f:α→List Value} {x:aI} {l:List α} (hm:Rw n f x l∈Γ) {T1 T2:TypeId} (ht:nv PG T1=some n) (hn:0 < n) (hT:dc PG T2=some true) {i:Int} (j:Nat) (hi:i=j) {y:α} (hy:l[j]? = some y) {b1:B} (v:b1.den) (hv:(f y)[0]? = some (b1.enc v)) {k:b1.den→T}
  (hk:au PG I t Rel Δ none st (k v) run L Γ):au PG I t Rel Δ md st (.op (aR T1 (.slice x.1 x.2.1 x.2.2) (.int .i64 i)) tA fun r=>.op (ai T2 (.pointer (some r))) (.c (.b b1)) k) run L Γ:=by
 have hj:j < l.length:=(List.getElem?_eq_some_iff.1 hy).1
 refine CF hm (by omega) fun a ha hs=>cd (t1:=tA) (a.add (j * n)) (rH hm ha ht j hi hj) (cd (t1:=.c (.b b1)) v (vR hm ha hy hT hn hv (rP hs _)) hk)
theorem Ba {α:Type} {n:Nat} {f:α→List Value} {x:aI} {l:List α} (hm:Rw n f x l∈Γ) (hq:Rw n f x l∈Γq) {T1 T2:TypeId} (ht:nv PG T1=some n) (hn:0 < n) (hT:dc PG T2=some true) {i:Int} (j:Nat) (hi:i=j) {y:α} (hy:l[j]? = some y) {b1:B} (v:b1.den) (hv:(f y)[0]? = some (b1.enc v)) {k:b1.den→T}
  (hk:au PG I t Rel Δ (some (Γq,Lq)) st (k v) run L Γ):au PG I t Rel Δ (some (Γq,Lq)) st (.opq (aR T1 (.slice x.1 x.2.1 x.2.2) (.int .i64 i)) tA fun r=>.opq (ai T2 (.pointer (some r))) (.c (.b b1)) k) run L Γ:=by
 have hj:j < l.length:=(List.getElem?_eq_some_iff.1 hy).1
 refine CF hm (by omega) fun a ha hs=>gS (t1:=tA) (a.add (j * n)) (rH hq ha ht j hi hj) (gS (t1:=.c (.b b1)) v (vR hq ha hy hT hn hv (rP hs _)) hk)
theorem LG {α:Type} {n:Nat} {f:α→List Value} {x:aI} {l:List α} (hm:Rw n f x l∈Γ) {T1 T2:TypeId} (ht:nv PG T1=some n) (hT:dc PG T2=some true) {i:Int} (j:Nat) (hi:i=j) {y:α} (hy:l[j]? = some y) {d:Nat} (hd:d < n) {b1:B} (v:b1.den) (hv:(f y)[d]? = some (b1.enc v)) {k:b1.den→T}
  (hk:au PG I t Rel Δ none st (k v) run L Γ):au PG I t Rel Δ md st (.op (aR T1 (.slice x.1 x.2.1 x.2.2) (.int .i64 i)) tA fun r=>.op (ai T2 (.pointer (some ⟨r.block,r.off+d,none⟩))) (.c (.b b1)) k) run L Γ:=by
 have hj:j < l.length:=(List.getElem?_eq_some_iff.1 hy).1
 refine CF hm (by omega) fun a ha hs=>cd (t1:=tA) (a.add (j * n)) (rH hm ha ht j hi hj) (cd (t1:=.c (.b b1)) v (vR hm ha hy hT hd hv ⟨rfl,rfl,rfl⟩) hk)
theorem Lb {α:Type} {n:Nat} {f:α→List Value} {x:aI} {l:List α} (hm:Rw n f x l∈Γ) (hq:Rw n f x l∈Γq) {T1 T2:TypeId} (ht:nv PG T1=some n) (hT:dc PG T2=some true) {i:Int} (j:Nat) (hi:i=j) {y:α} (hy:l[j]? = some y) {d:Nat} (hd:d < n) {b1:B} (v:b1.den) (hv:(f y)[d]? = some (b1.enc v)) {k:b1.den→T}
  (hk:au PG I t Rel Δ (some (Γq,Lq)) st (k v) run L Γ):au PG I t Rel Δ (some (Γq,Lq)) st (.opq (aR T1 (.slice x.1 x.2.1 x.2.2) (.int .i64 i)) tA fun r=>.opq (ai T2 (.pointer (some ⟨r.block,r.off+d,none⟩))) (.c (.b b1)) k) run L Γ:=by
 have hj:j < l.length:=(List.getElem?_eq_some_iff.1 hy).1
 refine CF hm (by omega) fun a ha hs=>gS (t1:=tA) (a.add (j * n)) (rH hq ha ht j hi hj) (gS (t1:=.c (.b b1)) v (vR hq ha hy hT hd hv ⟨rfl,rfl,rfl⟩) hk)
theorem Ji {α:Type} {n:Nat} {f:α→List Value} (hf:∀ x,(f x).length=n) {x:aI} {l:List α} (hm:Rw n f x l∈Γ) {T1 T2:TypeId} (ht:nv PG T1=some n) (hT:ci PG T2=some (true,n)) {i:Int} (j:Nat) (hi:i=j) {y:α} (hy:l[j]? = some y) {bs:List B} (v:HB bs) (hv:f y=HB.enc bs v) {k:HB bs→T}
  (hk:au PG I t Rel Δ none st (k v) run L Γ):au PG I t Rel Δ md st (.op (aR T1 (.slice x.1 x.2.1 x.2.2) (.int .i64 i)) tA fun r=>.op (ai T2 (.pointer (some r))) (.c (.agg bs)) k) run L Γ:=by
 have hj:j < l.length:=(List.getElem?_eq_some_iff.1 hy).1
 refine CF hm (by omega) fun a ha hs=>cd (t1:=tA) (a.add (j * n)) (rH hm ha ht j hi hj) (cd (t1:=.c (.agg bs)) v ?_ hk)
 have h:=JJ (n:=n) hf hm ha hs hy hT
 rw [hv] at h
 exact h
theorem CI {P:Program} {L:al} {Γ:List Fact} {T:TypeId} (v:Value):Loc P (cJ T v) tA L Γ fun y L' Γ'=>∃ b,y=⟨b,0,none⟩∧L'=L∧Γ'=Fact.at b (aq T v.cells.toList)::Γ :=
 Loc.val fun r w F H hF hsp=>⟨_,_,L,_,F.ins w.heap.size (aq T v.cells.toList),.inl (qj v),hsp.new_le _,
  Holds.cons (by simp [Fact.at,Heap.ins]) (hF.mono (hsp.new_le _)),hsp.newF _,w.heap.size,rfl,rfl,rfl⟩
theorem sH {T1:TypeId} (v:Value) {k:Addr→T} (hk:∀ b,au PG I t Rel Δ none st (k ⟨b,0,none⟩) run L (Fact.at b (aq T1 v.cells.toList)::Γ)):au PG I t Rel Δ md st (.op (cJ T1 v) tA k) run L Γ :=
 bY (CI v) fun x L' Γ' ⟨b,h1,h2,h3⟩=>by subst h1; subst h2; subst h3; exact hk b
theorem E6 {T1:TypeId} {v:Value} {z:List Value} {c:Bool} {k:Addr→T} (hz:p7 PG T1=some z) (hs:ci PG T1=some (c,v.cells.toList.length)) (hl:v.cells.toList.length=z.length) (h1:∀ x∈v.cells.toList,x.oneCell'=true)
  (hk:∀ b,au PG I t Rel Δ none st (k ⟨b,0,none⟩) run L (Fact.at b (aq T1 v.cells.toList)::Γ)):au PG I t Rel Δ md st (.op (bj T1) tA fun r=>.op (aW T1 (.pointer (some r)) v) tU fun _=>k r) run L Γ:=by
 refine bY (bF hz) ?_
 rintro _ _ _ ⟨b,rfl,rfl,rfl⟩
 refine bY (a6 (L1:=[]) (L2:=L) (l:=z) (T:=T1) (T0:=T1) (c:=c) rfl hs rfl (by show 0+_≤_; omega) h1) ?_
 rintro _ _ _ ⟨rfl,rfl⟩
 have e:bB z 0 v.cells.toList=v.cells.toList:=by unfold bB; rw [Nat.zero_add,hl]; simp
 show au PG I t Rel Δ none st (k ⟨b,0,none⟩) run ((b,aq T1 (bB z 0 v.cells.toList))::L) _
 rw [e]
 exact kF (hk b)
theorem uo {b:Nat} {T0 T1:TypeId} {l:List Value} {o:Nat} {b1:B} {k:b1.den→T} (v:b1.den) (hm:Fact.at b (aq T0 l)∈Γ) (hT:dc PG T1=some true) (hv:l[o]? = some (b1.enc v)) (hk:au PG I t Rel Δ none st (k v) run L Γ) :
  au PG I t Rel Δ md st (.op (ai T1 (.pointer (some ⟨b,o,none⟩))) (.c (.b b1)) k) run L Γ:=cd (t1:=.c (.b b1)) v (HY hm hT hv) hk
theorem H7 {b:Nat} {T0 T1:TypeId} {l:List Value} {o:Nat} {b1:B} {k:b1.den→T} (v:b1.den) (hm:Fact.at b (aq T0 l)∈Γq) (hT:dc PG T1=some true) (hv:l[o]? = some (b1.enc v)) (hk:au PG I t Rel Δ (some (Γq,Lq)) st (k v) run L Γ) :
  au PG I t Rel Δ (some (Γq,Lq)) st (.opq (ai T1 (.pointer (some ⟨b,o,none⟩))) (.c (.b b1)) k) run L Γ:=gS (t1:=.c (.b b1)) v (HY hm hT hv) hk
theorem If {b:Nat} {T0 T1:TypeId} {l:List Value} {o:Nat} {bs:List B} {k:HB bs→T} (v:HB bs) (hm:Fact.at b (aq T0 l)∈Γ) (hT:ci PG T1=some (true,(HB.enc bs v).length)) (hv:(l.drop o).take (HB.enc bs v).length=HB.enc bs v) (hk:au PG I t Rel Δ none st (k v) run L Γ) :
  au PG I t Rel Δ md st (.op (ai T1 (.pointer (some ⟨b,o,none⟩))) (.c (.agg bs)) k) run L Γ:=cd (t1:=.c (.agg bs)) v (FQ hm hT hv) hk
theorem IX {b:Nat} {T0 T1:TypeId} {l:List Value} {o:Nat} {bs:List B} {k:HB bs→T} (v:HB bs) (hm:Fact.at b (aq T0 l)∈Γq) (hT:ci PG T1=some (true,(HB.enc bs v).length)) (hv:(l.drop o).take (HB.enc bs v).length=HB.enc bs v) (hk:au PG I t Rel Δ (some (Γq,Lq)) st (k v) run L Γ) :
  au PG I t Rel Δ (some (Γq,Lq)) st (.opq (ai T1 (.pointer (some ⟨b,o,none⟩))) (.c (.agg bs)) k) run L Γ:=gS (t1:=.c (.agg bs)) v (FQ hm hT hv) hk
end
def cI (x:aI) (es:List E):Fact:=⟨fun F=>(Rw 5 dJ x es).p F∧(∀ e∈es,(Rw 1 bS e.ks e.f.kids).p F)∧es.length≤1099511627776∧∀ e∈es,e.f.kids.length≤1099511627776∧e.f.text.size≤1048576,
 fun F F' hl h=>⟨(Rw 5 dJ x es).mono F F' hl h.1,fun e he=>(Rw 1 bS e.ks e.f.kids).mono F F' hl (h.2.1 e he),h.2.2⟩⟩
end Go.Proofs.YtjlgcpgjdgeejaaGreatDoor
end

section
namespace Go.Proofs.YtjlgcpgjdgeejaaGreatDoor
open Go
set_option linter.unusedVariables false
set_option maxRecDepth 100000
noncomputable section
def zZ:An :=
 .s (.r [some tA,none,none]) (.s (.s (.r [none,some ah,none,none]) (.c (.s (.r [none,none]) (.x)) (.x))) (.s (.s (.r [some (.c (.agg [.slice])),some tB,none]) (.c (.s (.r [none,none]) (.x)) (.x))) (.s (.r [none,some ah,none]) (.s (.r [none]) (.s (.j [(5,.b (.int .i64))] (.b (.l [(4,.b .slice),(5,.b (.int .i64))] (.s (.s (.r [none,none,none]) (.c (.x) (.x))) (.b (.s (.r [none,none,none,none,some tA,none]) (.s (.d (.q 0 none (.q 1 (some ah) (.q 2 none (.q 3 none (.q 4 none (.q 5 (some tI) (.q 6 (some tA) (.q 7 none (.q 8 (some ah) (.q 9 none (.e)))))))))))) (.s (.s (.r [none,none,none,some tI,none,none,none]) (.c (.s (.r [none,none,none,none,some ah,none]) (.x)) (.x))) (.s (.r [none,none,none,none,some tI,some tA,some tI,none]) (.s (.r [none,none,none,some tI,none,none,none,some tU]) (.s (.s (.r [none,none,none]) (.c (.s (.r [none,none,none,some tI,none,none]) (.x)) (.x))) (.s (.s (.r [some (.c (.agg [.slice])),none,some tB,none]) (.c (.s (.r [none,none,none]) (.x)) (.x))) (.s (.r [none,none,none]) (.r [none,none,none,some ah,some ah,none])))))))))))))) (.s (.s (.r [none,none,some ah,none,none]) (.c (.s (.r [none,none,none]) (.x)) (.x))) (.s (.r [none,none]) (.x))))))))
def nL (a0_a0:HB [.slice]):T :=
 .op (cJ ap (.agg #[.slice a0_a0.1.1 a0_a0.1.2.1 a0_a0.1.2.2])) tA fun r1 =>
 .op (ai aw (.pointer (some r1))) ah fun r2 =>
 .ite (((r2.2.1:Int):Int)==0) (
 .ret #[.v (.int .i64 0),.v (.int .i64 7)]) (
 .op (ai ap (.pointer (some r1))) (.c (.agg [.slice])) fun r3 =>
 .op (aa lj #[.agg #[.slice r3.1.1 r3.1.2.1 r3.1.2.2],.int .i64 0]) tB fun r4 =>
 .ite (!r4) (
 .ret #[.v (.int .i64 0),.v (.int .i64 7)]) (
 .op (ar dA 1 #[(0,.agg #[.int .i64 0,.int .i64 0])]) ah fun r5 =>
 .join 0 [.b (.int .i64)] (
 .loop 1 [.b .slice,.b (.int .i64)] [.slice r5.1 r5.2.1 r5.2.2,.int .i64 1] fun x6 =>
 .ite (decide (((x6.1.2.1:Int):Int) > 0)) (
 .op (aR dA (.slice x6.1.1 x6.1.2.1 x6.1.2.2) (.int .i64 (IntKind.i64.wrap ((x6.1.2.1:Int) - 1)))) tA fun r7 =>
 .draw <|
 .opq (ai aw (.pointer (some r1))) ah fun r8 =>
 .opq (ai ak (.pointer (some r7))) tI fun r9 =>
 .opq (aR aw (.slice r8.1 r8.2.1 r8.2.2) (.int .i64 r9)) tA fun r10 =>
 .opq (ai aM (.pointer (some ⟨r10.block,r10.off+3,none⟩))) ah fun r11 =>
 .op (ai ak (.pointer (some ⟨r7.block,r7.off+1,none⟩))) tI fun r12 =>
 .ite ((r12:Int)==(r11.2.1:Int)) (
 .op (d8 dA (.slice x6.1.1 x6.1.2.1 x6.1.2.2) none (some (.int .i64 (IntKind.i64.wrap ((x6.1.2.1:Int) - 1)))) none) ah fun r13 =>
 .out 1 [.slice r13.1 r13.2.1 r13.2.2,.int .i64 x6.2.1]) (
 .op (ai ak (.pointer (some ⟨r7.block,r7.off+1,none⟩))) tI fun r14 =>
 .op (aR aM (.slice r11.1 r11.2.1 r11.2.2) (.int .i64 r14)) tA fun r15 =>
 .op (ai ak (.pointer (some r15))) tI fun r16 =>
 .op (ai ak (.pointer (some ⟨r7.block,r7.off+1,none⟩))) tI fun r17 =>
 .op (aW ak (.pointer (some ⟨r7.block,r7.off+1,none⟩)) (.int .i64 (IntKind.i64.wrap (r17+1)))) tU fun _ =>
 .ite ((r16:Int) != x6.2.1) (
 .op (ai ak (.pointer (some r7))) tI fun r19 =>
 .ret #[.v (.int .i64 r19),.v (.int .i64 7)]) (
 .op (ai ap (.pointer (some r1))) (.c (.agg [.slice])) fun r20 =>
 .op (aa lj #[.agg #[.slice r20.1.1 r20.1.2.1 r20.1.2.2],.int .i64 r16]) tB fun r21 =>
 .ite (!r21) (
 .ret #[.v (.int .i64 r16),.v (.int .i64 7)]) (
 .op (ar dA 1 #[(0,.agg #[.int .i64 r16,.int .i64 0])]) ah fun r22 =>
 .op (dg #[dA,dA] dA #[.slice x6.1.1 x6.1.2.1 x6.1.2.2,.slice r22.1 r22.2.1 r22.2.2]) ah fun r23 =>
 .out 1 [.slice r23.1 r23.2.1 r23.2.2,.int .i64 (IntKind.i64.wrap (x6.2.1+1))])))) (
 .out 0 [.int .i64 x6.2.1])) fun x24 =>
 .op (ai aw (.pointer (some r1))) ah fun r25 =>
 .ite (decide ((x24.1:Int) < (r25.2.1:Int))) (
 .ret #[.v (.int .i64 x24.1),.v (.int .i64 7)]) (
 .ret #[.v (.int .i64 (-1)),.v (.int .i64 0)])))
theorem B2 (a0_a0:HB [.slice]):bh Tryz.prog Tryz.f28 zZ [.agg #[.slice a0_a0.1.1 a0_a0.1.2.1 a0_a0.1.2.2]]=nL a0_a0:=by kernel_rfl
theorem BE {ε σ β:Type} {I:av ε σ} {t:Ty} {s:Sp ε σ β} {Rel:β→t.den→al→Fact} {Γ:List Fact} (a0_a0:HB [.slice]) (h:Sim Tryz.prog I t Rel noLabel none (nL a0_a0) s [] Γ):MeetsO Tryz.prog I (aa nP #[.agg #[.slice a0_a0.1.1 a0_a0.1.2.1 a0_a0.1.2.2]]) t s Rel Γ :=
 aj (args:=[.agg #[.slice a0_a0.1.1 a0_a0.1.2.1 a0_a0.1.2.2]]) Tryz.func28 rfl rfl (Nat.le_of_ble_eq_true rfl) (by rw [B2]; exact h)
def CC:An :=
 .s (.r [some tA,none]) (.s (.r [none,some ah,none,some tA,some (.c (.agg [.int .i64,.str,.int .i64,.slice,.int .i64])),some tA,some tU]) (.s (.s (.r [some (.c (.agg [.int .i64,.str,.int .i64,.slice,.int .i64])),some tB,none]) (.c (.s (.r [none]) (.x)) (.x))) (.s (.s (.r [none,some ah,none,none]) (.j [] (.b (.l [(28,.b (.int .i64))] (.s (.r [none]) (.s (.c (.x) (.x)) (.s (.b (.s (.r [some tA,some tI,none]) (.s (.r [some (.c (.agg [.slice])),none,some tB,none]) (.c (.s (.r [none]) (.x)) (.x))))) (.r [none,none])))))))) (.s (.r [none,none]) (.s (.s (.r [none,some tI]) (.j [] (.b (.s (.r [none,none]) (.c (.s (.s (.r [none,some ah,none,none]) (.j [] (.b (.l [(45,.b (.int .i64))] (.s (.r [none]) (.s (.c (.x) (.x)) (.s (.b (.s (.r [none,some tA,some tI,none,none]) (.s (.r [none,some tI,none,none,none,some ah,none,some tA,none,some tI,none,none,none,none,some tI,none,none,some (.c (.agg [.slice])),none,some tB,none,none,none]) (.c (.s (.r [none]) (.x)) (.x))))) (.r [none,none])))))))) (.s (.r [none,some ah,none,some tI,none,none]) (.x))) (.s (.r [none,none]) (.c (.s (.r [none,some ah,none,none,none,none,some ah,none,some tB,none,none,none]) (.x)) (.x)))))))) (.s (.r [none,some tI,some (.tup [.b .slice,.b .bool,.b .bool]),none,none,none,none,none,none,none]) (.s (.s (.j [(112,.b .bool)] (.r [none,none,none,none,none,none,none,none,none,some ah,none,none,none,none])) (.c (.s (.r [none]) (.x)) (.x))) (.s (.s (.r [none,some ah,none,none]) (.j [] (.b (.l [(116,.b (.int .i64))] (.s (.r [none]) (.s (.c (.x) (.x)) (.s (.b (.s (.r [none,some tA,some tI,none,none]) (.s (.r [none,none,none,none,none,none,some tA,some tV,none]) (.s (.r [none,some (.c (.agg [.slice])),none,some tB,none]) (.c (.s (.r [none]) (.x)) (.x)))))) (.r [none,none])))))))) (.s (.r [none,some tI,none,none,none,some tI,none,none,none,none,some tI,none,none,none]) (.x))))))))))
def oQ (a0_a0:HB [.slice]) (a1_a1:Int):T :=
 .op (cJ ap (.agg #[.slice a0_a0.1.1 a0_a0.1.2.1 a0_a0.1.2.2])) tA fun r1 =>
 .op (ai aw (.pointer (some r1))) ah fun r2 =>
 .op (aR aw (.slice r2.1 r2.2.1 r2.2.2) (.int .i64 a1_a1)) tA fun r3 =>
 .op (ai bz (.pointer (some r3))) (.c (.agg [.int .i64,.str,.int .i64,.slice,.int .i64])) fun r4 =>
 .op (bj bz) tA fun r5 =>
 .op (aW bz (.pointer (some r5)) (.agg #[.int .i64 r4.1,.string r4.2.1,.int .i64 r4.2.2.1,.slice r4.2.2.2.1.1 r4.2.2.2.1.2.1 r4.2.2.2.1.2.2,.int .i64 r4.2.2.2.2.1])) tU fun _ =>
 .op (ai bz (.pointer (some r5))) (.c (.agg [.int .i64,.str,.int .i64,.slice,.int .i64])) fun r7 =>
 .op (aa oL #[.agg #[.int .i64 r7.1,.string r7.2.1,.int .i64 r7.2.2.1,.slice r7.2.2.2.1.1 r7.2.2.2.1.2.1 r7.2.2.2.1.2.2,.int .i64 r7.2.2.2.2.1]]) tB fun r8 =>
 .ite (!r8) (
 .ret #[.v (.bool false)]) (
 .op (ai aM (.pointer (some ⟨r5.block,r5.off+3,none⟩))) ah fun r9 =>
 .join 0 [] (
 .loop 1 [.b (.int .i64)] [.int .i64 0] fun x10 =>
 .ite (decide ((x10.1:Int) < (r9.2.1:Int))) (
 .op (aR aM (.slice r9.1 r9.2.1 r9.2.2) (.int .i64 x10.1)) tA fun r11 =>
 .op (ai ak (.pointer (some r11))) tI fun r12 =>
 .op (ai ap (.pointer (some r1))) (.c (.agg [.slice])) fun r13 =>
 .op (aa gE #[.agg #[.slice r13.1.1 r13.1.2.1 r13.1.2.2],.int .i64 r12]) tB fun r14 =>
 .ite (!r14) (
 .ret #[.v (.bool false)]) (
 .out 1 [.int .i64 (IntKind.i64.wrap (x10.1+1))])) (
 .out 0 [])) fun x15 =>
 .op (ai ak (.pointer (some r5))) tI fun r16 =>
 .join 0 [] (
 .ite ((r16:Int)==12) (
 .op (ai aM (.pointer (some ⟨r5.block,r5.off+3,none⟩))) ah fun r17 =>
 .join 1 [] (
 .loop 2 [.b (.int .i64)] [.int .i64 0] fun x18 =>
 .ite (decide ((x18.1:Int) < (r17.2.1:Int))) (
 .op (aR aM (.slice r17.1 r17.2.1 r17.2.2) (.int .i64 x18.1)) tA fun r19 =>
 .op (ai ak (.pointer (some r19))) tI fun r20 =>
 .op (bT .rem ak (.int .i64 x18.1) (.int .i64 2)) tI fun r21 =>
 .ite ((r21:Int)==0) (
 .op (ai aw (.pointer (some r1))) ah fun r22 =>
 .op (aR aw (.slice r22.1 r22.2.1 r22.2.2) (.int .i64 r20)) tA fun r23 =>
 .op (ai ak (.pointer (some r23))) tI fun r24 =>
 .ite ((r24:Int) != 11) (
 .ret #[.v (.bool false)]) (
 .op (bT .rem ak (.int .i64 x18.1) (.int .i64 2)) tI fun r25 =>
 .ite ((r25:Int)==1) (
 .op (ai ap (.pointer (some r1))) (.c (.agg [.slice])) fun r26 =>
 .op (aa ez #[.agg #[.slice r26.1.1 r26.1.2.1 r26.1.2.2],.int .i64 r20]) tB fun r27 =>
 .ite (!r27) (
 .ret #[.v (.bool false)]) (
 .out 2 [.int .i64 (IntKind.i64.wrap (x18.1+1))])) (
 .out 2 [.int .i64 (IntKind.i64.wrap (x18.1+1))]))) (
 .op (bT .rem ak (.int .i64 x18.1) (.int .i64 2)) tI fun r28 =>
 .ite ((r28:Int)==1) (
 .op (ai ap (.pointer (some r1))) (.c (.agg [.slice])) fun r29 =>
 .op (aa ez #[.agg #[.slice r29.1.1 r29.1.2.1 r29.1.2.2],.int .i64 r20]) tB fun r30 =>
 .ite (!r30) (
 .ret #[.v (.bool false)]) (
 .out 2 [.int .i64 (IntKind.i64.wrap (x18.1+1))])) (
 .out 2 [.int .i64 (IntKind.i64.wrap (x18.1+1))]))) (
 .out 1 [])) fun x31 =>
 .op (ai aM (.pointer (some ⟨r5.block,r5.off+3,none⟩))) ah fun r32 =>
 .op (bT .rem ak (.int .i64 (r32.2.1:Int)) (.int .i64 2)) tI fun r33 =>
 .ret #[.v (.bool ((r33:Int)==1))]) (
 .ite ((r16:Int)==87) (
 .op (ai aM (.pointer (some ⟨r5.block,r5.off+3,none⟩))) ah fun r34 =>
 .ite (decide (((r34.2.1:Int):Int) > 1)) (
 .op (ai aM (.pointer (some ⟨r5.block,r5.off+3,none⟩))) ah fun r35 =>
 .op (aa dZ #[.slice r35.1 r35.2.1 r35.2.2,.func (.func fq) #[] #[.pointer (some r1)]]) tB fun r36 =>
 .ret #[.v (.bool (!r36))]) (
 .ret #[.v (.bool false)])) (
 .out 0 []))) fun x37 =>
 .op (ai ak (.pointer (some r5))) tI fun r38 =>
 .op (aa mB #[.int .i64 r38]) (.tup [.b .slice,.b .bool,.b .bool]) fun r39 =>
 .join 0 [.b .bool] (
 .ite (!r39.2.2.1) (
 .out 0 [.bool true]) (
 .ite (!r39.2.1) (
 .op (ai aM (.pointer (some ⟨r5.block,r5.off+3,none⟩))) ah fun r40 =>
 .out 0 [.bool (((r39.1.2.1:Int):Int) != (r40.2.1:Int))]) (
 .out 0 [.bool false]))) fun x41 =>
 .ite x41.1 (
 .ret #[.v (.bool false)]) (
 .op (ai aM (.pointer (some ⟨r5.block,r5.off+3,none⟩))) ah fun r42 =>
 .join 0 [] (
 .loop 1 [.b (.int .i64)] [.int .i64 0] fun x43 =>
 .ite (decide ((x43.1:Int) < (r42.2.1:Int))) (
 .op (aR aM (.slice r42.1 r42.2.1 r42.2.2) (.int .i64 x43.1)) tA fun r44 =>
 .op (ai ak (.pointer (some r44))) tI fun r45 =>
 .op (aR aU (.slice r39.1.1 r39.1.2.1 r39.1.2.2) (.int .i64 (if (IntKind.i64.wrap ((r39.1.2.1:Int) - 1):Int) < x43.1 then IntKind.i64.wrap ((r39.1.2.1:Int) - 1) else x43.1))) tA fun r46 =>
 .op (ai cu (.pointer (some r46))) tV fun r47 =>
 .op (ai ap (.pointer (some r1))) (.c (.agg [.slice])) fun r48 =>
 .op (aK r47 #[.agg #[.slice r48.1.1 r48.1.2.1 r48.1.2.2],.int .i64 r45]) tB fun r49 =>
 .ite (!r49) (
 .ret #[.v (.bool false)]) (
 .out 1 [.int .i64 (IntKind.i64.wrap (x43.1+1))])) (
 .out 0 [])) fun x50 =>
 .op (ai ak (.pointer (some r5))) tI fun r51 =>
 .ite ((r51:Int) != 61) (
 .ret #[.v (.bool true)]) (
 .op (aK (.func (.func eC) #[] #[.pointer (some r1),.pointer (some r5)]) #[.int .i64 1]) tI fun r52 =>
 .ite ((r52:Int) != 1) (
 .ret #[.v (.bool true)]) (
 .op (aK (.func (.func eC) #[] #[.pointer (some r1),.pointer (some r5)]) #[.int .i64 2]) tI fun r53 =>
 .ret #[.v (.bool ((r53:Int) != 1))]))))
theorem Du (a0_a0:HB [.slice]) (a1_a1:Int):bh Tryz.prog Tryz.f47 CC [.agg #[.slice a0_a0.1.1 a0_a0.1.2.1 a0_a0.1.2.2],.int .i64 a1_a1]=oQ a0_a0 a1_a1:=by kernel_rfl
theorem Dx {ε σ β:Type} {I:av ε σ} {t:Ty} {s:Sp ε σ β} {Rel:β→t.den→al→Fact} {Γ:List Fact} (a0_a0:HB [.slice]) (a1_a1:Int) (h:Sim Tryz.prog I t Rel noLabel none (oQ a0_a0 a1_a1) s [] Γ):MeetsO Tryz.prog I (aa lj #[.agg #[.slice a0_a0.1.1 a0_a0.1.2.1 a0_a0.1.2.2],.int .i64 a1_a1]) t s Rel Γ :=
 aj (args:=[.agg #[.slice a0_a0.1.1 a0_a0.1.2.1 a0_a0.1.2.2],.int .i64 a1_a1]) Tryz.func47 rfl rfl (Nat.le_of_ble_eq_true rfl) (by rw [Du]; exact h)
def xm:An :=
 .s (.r [none]) (.s (.d (.q 0 none (.q 1 (some ah) (.q 2 none (.q 3 (some ah) (.q 4 none (.q 5 (some tA) (.q 6 (some tI) (.q 7 (some tA) (.q 8 none (.q 9 (some tI) (.q 10 none (.e))))))))))))) (.x))
def mm (a0_k:Int) (a1_a1:Addr) (a2_a2:Addr):T :=
 .draw <|
 .opq (ai aw (.pointer (some a1_a1))) ah fun r1 =>
 .opq (ai aM (.pointer (some ⟨a2_a2.block,a2_a2.off+3,none⟩))) ah fun r2 =>
 .opq (aR aM (.slice r2.1 r2.2.1 r2.2.2) (.int .i64 a0_k)) tA fun r3 =>
 .opq (ai ak (.pointer (some r3))) tI fun r4 =>
 .opq (aR aw (.slice r1.1 r1.2.1 r1.2.2) (.int .i64 r4)) tA fun r5 =>
 .opq (ai ak (.pointer (some r5))) tI fun r6 =>
 .ret #[.v (.int .i64 r6)]
theorem zk (a0_k:Int) (a1_a1:Addr) (a2_a2:Addr):bh Tryz.prog Tryz.f74 xm [.int .i64 a0_k,.pointer (some a1_a1),.pointer (some a2_a2)]=mm a0_k a1_a1 a2_a2:=by kernel_rfl
theorem zC {ε σ β:Type} {I:av ε σ} {t:Ty} {s:Sp ε σ β} {Rel:β→t.den→al→Fact} {Γ:List Fact} (a0_k:Int) (a1_a1:Addr) (a2_a2:Addr) (h:Sim Tryz.prog I t Rel noLabel none (mm a0_k a1_a1 a2_a2) s [] Γ):MeetsO Tryz.prog I (aa eC #[.int .i64 a0_k,.pointer (some a1_a1),.pointer (some a2_a2)]) t s Rel Γ :=
 aj (args:=[.int .i64 a0_k,.pointer (some a1_a1),.pointer (some a2_a2)]) Tryz.func74 rfl rfl (Nat.le_of_ble_eq_true rfl) (by rw [zk]; exact h)
def ym:An :=
 .s (.r [none]) (.s (.r [some (.c (.agg [.slice])),none,some tB,none,none]) (.x))
def lS (a0_k:Int) (a1_a1:Addr):T :=
 .op (ai ap (.pointer (some a1_a1))) (.c (.agg [.slice])) fun r1 =>
 .op (aa fs #[.agg #[.slice r1.1.1 r1.1.2.1 r1.1.2.2],.int .i64 a0_k]) tB fun r2 =>
 .ret #[.v (.bool (!r2))]
theorem AL (a0_k:Int) (a1_a1:Addr):bh Tryz.prog Tryz.f77 ym [.int .i64 a0_k,.pointer (some a1_a1)]=lS a0_k a1_a1:=by kernel_rfl
theorem zG {ε σ β:Type} {I:av ε σ} {t:Ty} {s:Sp ε σ β} {Rel:β→t.den→al→Fact} {Γ:List Fact} (a0_k:Int) (a1_a1:Addr) (h:Sim Tryz.prog I t Rel noLabel none (lS a0_k a1_a1) s [] Γ):MeetsO Tryz.prog I (aa fq #[.int .i64 a0_k,.pointer (some a1_a1)]) t s Rel Γ :=
 aj (args:=[.int .i64 a0_k,.pointer (some a1_a1)]) Tryz.func77 rfl rfl (Nat.le_of_ble_eq_true rfl) (by rw [AL]; exact h)
def Cu:An :=
 .s (.r [some tA,none]) (.s (.r [none,some tI,none,none]) (.s (.s (.r [none,some tI]) (.b (.s (.r [none,none]) (.c (.s (.r [none,some tS,none,none,none,some tI,none,none,none,none,some tI,none,none,none]) (.x)) (.s (.r [none,none]) (.c (.s (.r [none,some tS,none,none,none,some tI,none,none,none,none,some tI,none,none,none]) (.x)) (.s (.s (.r [none,none]) (.j [(39,.b .bool)] (.c (.x) (.r [none,none])))) (.c (.s (.r [none,none,none,some tS,some tB,none,none]) (.x)) (.s (.r [none,none]) (.c (.s (.r [none,none,none,some tS,some tB,none,none]) (.x)) (.s (.r [none,none]) (.c (.s (.r [none,none,none,some tS,some tB,none,none]) (.x)) (.s (.r [none,none]) (.c (.s (.r [none,none,none,some tS,some tB,none,none]) (.x)) (.s (.r [none,none]) (.c (.s (.r [none,none,none,some tS,some tB,none,none]) (.x)) (.s (.s (.r [none,none]) (.j [(80,.b .bool)] (.c (.x) (.s (.r [none,none]) (.c (.x) (.s (.r [none,none]) (.c (.x) (.r [none,none])))))))) (.c (.s (.r [none,some tI,some tI,none,none,none,some tS,some tB,none,none]) (.x)) (.s (.r [none,none]) (.c (.s (.r [none,some tI,some tI,none,none,none,some tS,some tB,none,none]) (.x)) (.s (.r [none,none]) (.c (.s (.r [none,some tI,some tI,none,none,none,some tS,some tB,none,none]) (.x)) (.s (.s (.r [none,none]) (.j [(116,.b .bool)] (.c (.x) (.s (.r [none,none]) (.c (.x) (.s (.r [none,none]) (.c (.x) (.s (.r [none,none]) (.c (.x) (.s (.r [none,none]) (.c (.x) (.s (.r [none,none]) (.c (.x) (.s (.r [none,none]) (.c (.x) (.s (.r [none,none]) (.c (.x) (.s (.r [none,none]) (.c (.x) (.s (.r [none,none]) (.c (.x) (.s (.r [none,none]) (.c (.x) (.s (.r [none,none]) (.c (.x) (.s (.r [none,none]) (.c (.x) (.r [none,none])))))))))))))))))))))))))))) (.c (.s (.r [none,none,none,some tS,some tB,none,none]) (.x)) (.x))))))))))))))))))))))))) (.s (.r [none,none,none,some tS,none,none,none]) (.x))))
def oX (a0_a0:HB [.int .i64,.str,.int .i64,.slice,.int .i64]):T :=
 .op (cJ bz (.agg #[.int .i64 a0_a0.1,.string a0_a0.2.1,.int .i64 a0_a0.2.2.1,.slice a0_a0.2.2.2.1.1 a0_a0.2.2.2.1.2.1 a0_a0.2.2.2.1.2.2,.int .i64 a0_a0.2.2.2.2.1])) tA fun r1 =>
 .op (ai ak (.pointer (some ⟨r1.block,r1.off+2,none⟩))) tI fun r2 =>
 .op (ai ak (.pointer (some r1))) tI fun r3 =>
 .ite ((r3:Int)==10) (
 .op (ai aF (.pointer (some ⟨r1.block,r1.off+1,none⟩))) tS fun r4 =>
 .ite (r4.toList==kE.toList) (
 .op (ai ak (.pointer (some ⟨r1.block,r1.off+2,none⟩))) tI fun r5 =>
 .ite (decide ((r5:Int)≥0)) (
 .op (ai ak (.pointer (some ⟨r1.block,r1.off+2,none⟩))) tI fun r6 =>
 .ret #[.v (.bool (decide ((r6:Int)≤9007199254740991)))]) (
 .ret #[.v (.bool false)])) (
 .ret #[.v (.bool false)])) (
 .ite ((r3:Int)==81) (
 .op (ai aF (.pointer (some ⟨r1.block,r1.off+1,none⟩))) tS fun r7 =>
 .ite (r7.toList==kE.toList) (
 .op (ai ak (.pointer (some ⟨r1.block,r1.off+2,none⟩))) tI fun r8 =>
 .ite (decide ((r8:Int)≥(-9007199254740991))) (
 .op (ai ak (.pointer (some ⟨r1.block,r1.off+2,none⟩))) tI fun r9 =>
 .ret #[.v (.bool (decide ((r9:Int)≤9007199254740991)))]) (
 .ret #[.v (.bool false)])) (
 .ret #[.v (.bool false)])) (
 .join 0 [.b .bool] (
 .ite ((r3:Int)==11) (
 .out 0 [.bool true]) (
 .out 0 [.bool ((r3:Int)==82)])) fun x10 =>
 .ite x10.1 (
 .ite ((r2:Int)==0) (
 .op (ai aF (.pointer (some ⟨r1.block,r1.off+1,none⟩))) tS fun r11 =>
 .op (aa oH #[.string r11]) tB fun r12 =>
 .ret #[.v (.bool r12)]) (
 .ret #[.v (.bool false)])) (
 .ite ((r3:Int)==23) (
 .ite ((r2:Int)==0) (
 .op (ai aF (.pointer (some ⟨r1.block,r1.off+1,none⟩))) tS fun r13 =>
 .op (aa ip #[.string r13,.string dw]) tB fun r14 =>
 .ret #[.v (.bool r14)]) (
 .ret #[.v (.bool false)])) (
 .ite ((r3:Int)==24) (
 .ite ((r2:Int)==0) (
 .op (ai aF (.pointer (some ⟨r1.block,r1.off+1,none⟩))) tS fun r15 =>
 .op (aa ip #[.string r15,.string yx]) tB fun r16 =>
 .ret #[.v (.bool r16)]) (
 .ret #[.v (.bool false)])) (
 .ite ((r3:Int)==26) (
 .ite ((r2:Int)==0) (
 .op (ai aF (.pointer (some ⟨r1.block,r1.off+1,none⟩))) tS fun r17 =>
 .op (aa ip #[.string r17,.string uC]) tB fun r18 =>
 .ret #[.v (.bool r18)]) (
 .ret #[.v (.bool false)])) (
 .ite ((r3:Int)==80) (
 .ite ((r2:Int)==0) (
 .op (ai aF (.pointer (some ⟨r1.block,r1.off+1,none⟩))) tS fun r19 =>
 .op (aa oz #[.string r19]) tB fun r20 =>
 .ret #[.v (.bool r20)]) (
 .ret #[.v (.bool false)])) (
 .join 0 [.b .bool] (
 .ite ((r3:Int)==40) (
 .out 0 [.bool true]) (
 .ite ((r3:Int)==56) (
 .out 0 [.bool true]) (
 .ite ((r3:Int)==47) (
 .out 0 [.bool true]) (
 .out 0 [.bool ((r3:Int)==85)])))) fun x21 =>
 .ite x21.1 (
 .op (ai ak (.pointer (some ⟨r1.block,r1.off+2,none⟩))) tI fun r22 =>
 .op (bT .shr ak (.int .i64 r22) (.int .u64 1)) tI fun r23 =>
 .ite ((r23:Int)==0) (
 .op (ai aF (.pointer (some ⟨r1.block,r1.off+1,none⟩))) tS fun r24 =>
 .op (aa fK #[.string r24]) tB fun r25 =>
 .ret #[.v (.bool r25)]) (
 .ret #[.v (.bool false)])) (
 .ite ((r3:Int)==44) (
 .op (ai ak (.pointer (some ⟨r1.block,r1.off+2,none⟩))) tI fun r26 =>
 .op (bT .andNot ak (.int .i64 r26) (.int .i64 4)) tI fun r27 =>
 .ite ((r27:Int)==0) (
 .op (ai aF (.pointer (some ⟨r1.block,r1.off+1,none⟩))) tS fun r28 =>
 .op (aa fK #[.string r28]) tB fun r29 =>
 .ret #[.v (.bool r29)]) (
 .ret #[.v (.bool false)])) (
 .ite ((r3:Int)==66) (
 .op (ai ak (.pointer (some ⟨r1.block,r1.off+2,none⟩))) tI fun r30 =>
 .op (bT .andNot ak (.int .i64 r30) (.int .i64 7)) tI fun r31 =>
 .ite ((r31:Int)==0) (
 .op (ai aF (.pointer (some ⟨r1.block,r1.off+1,none⟩))) tS fun r32 =>
 .op (aa fK #[.string r32]) tB fun r33 =>
 .ret #[.v (.bool r33)]) (
 .ret #[.v (.bool false)])) (
 .join 0 [.b .bool] (
 .ite ((r3:Int)==17) (
 .out 0 [.bool true]) (
 .ite ((r3:Int)==21) (
 .out 0 [.bool true]) (
 .ite ((r3:Int)==29) (
 .out 0 [.bool true]) (
 .ite ((r3:Int)==32) (
 .out 0 [.bool true]) (
 .ite ((r3:Int)==41) (
 .out 0 [.bool true]) (
 .ite ((r3:Int)==42) (
 .out 0 [.bool true]) (
 .ite ((r3:Int)==43) (
 .out 0 [.bool true]) (
 .ite ((r3:Int)==45) (
 .out 0 [.bool true]) (
 .ite ((r3:Int)==48) (
 .out 0 [.bool true]) (
 .ite ((r3:Int)==49) (
 .out 0 [.bool true]) (
 .ite ((r3:Int)==51) (
 .out 0 [.bool true]) (
 .ite ((r3:Int)==52) (
 .out 0 [.bool true]) (
 .ite ((r3:Int)==62) (
 .out 0 [.bool true]) (
 .out 0 [.bool ((r3:Int)==67)])))))))))))))) fun x34 =>
 .ite x34.1 (
 .ite ((r2:Int)==0) (
 .op (ai aF (.pointer (some ⟨r1.block,r1.off+1,none⟩))) tS fun r35 =>
 .op (aa fK #[.string r35]) tB fun r36 =>
 .ret #[.v (.bool r36)]) (
 .ret #[.v (.bool false)])) (
 .ite ((r2:Int)==0) (
 .op (ai aF (.pointer (some ⟨r1.block,r1.off+1,none⟩))) tS fun r37 =>
 .ret #[.v (.bool (r37.toList==kE.toList))]) (
 .ret #[.v (.bool false)]))))))))))))
theorem Dk (a0_a0:HB [.int .i64,.str,.int .i64,.slice,.int .i64]):bh Tryz.prog Tryz.f73 Cu [.agg #[.int .i64 a0_a0.1,.string a0_a0.2.1,.int .i64 a0_a0.2.2.1,.slice a0_a0.2.2.2.1.1 a0_a0.2.2.2.1.2.1 a0_a0.2.2.2.1.2.2,.int .i64 a0_a0.2.2.2.2.1]]=oX a0_a0:=by kernel_rfl
theorem DH {ε σ β:Type} {I:av ε σ} {t:Ty} {s:Sp ε σ β} {Rel:β→t.den→al→Fact} {Γ:List Fact} (a0_a0:HB [.int .i64,.str,.int .i64,.slice,.int .i64]) (h:Sim Tryz.prog I t Rel noLabel none (oX a0_a0) s [] Γ):MeetsO Tryz.prog I (aa oL #[.agg #[.int .i64 a0_a0.1,.string a0_a0.2.1,.int .i64 a0_a0.2.2.1,.slice a0_a0.2.2.2.1.1 a0_a0.2.2.2.1.2.1 a0_a0.2.2.2.1.2.2,.int .i64 a0_a0.2.2.2.2.1]]) t s Rel Γ :=
 aj (args:=[.agg #[.int .i64 a0_a0.1,.string a0_a0.2.1,.int .i64 a0_a0.2.2.1,.slice a0_a0.2.2.2.1.1 a0_a0.2.2.2.1.2.1 a0_a0.2.2.2.1.2.2,.int .i64 a0_a0.2.2.2.2.1]]) Tryz.func73 rfl rfl (Nat.le_of_ble_eq_true rfl) (by rw [Dk]; exact h)
def wH:An :=
 .s (.r [some tA,none]) (.s (.r [none,none,none,none,none,some ah,none,none,none,none]) (.x))
def me (a0_t:HB [.slice]) (a1_n:Int):T :=
 .op (cJ ap (.agg #[.slice a0_t.1.1 a0_t.1.2.1 a0_t.1.2.2])) tA fun r1 =>
 .ite (decide ((a1_n:Int)≥0)) (
 .op (ai aw (.pointer (some r1))) ah fun r2 =>
 .ret #[.v (.bool (decide ((a1_n:Int) < (r2.2.1:Int))))]) (
 .ret #[.v (.bool false)])
theorem zI (a0_t:HB [.slice]) (a1_n:Int):bh Tryz.prog Tryz.f50 wH [.agg #[.slice a0_t.1.1 a0_t.1.2.1 a0_t.1.2.2],.int .i64 a1_n]=me a0_t a1_n:=by kernel_rfl
theorem AO {ε σ β:Type} {I:av ε σ} {t:Ty} {s:Sp ε σ β} {Rel:β→t.den→al→Fact} {Γ:List Fact} (a0_t:HB [.slice]) (a1_n:Int) (h:Sim Tryz.prog I t Rel noLabel none (me a0_t a1_n) s [] Γ):MeetsO Tryz.prog I (aa gE #[.agg #[.slice a0_t.1.1 a0_t.1.2.1 a0_t.1.2.2],.int .i64 a1_n]) t s Rel Γ :=
 aj (args:=[.agg #[.slice a0_t.1.1 a0_t.1.2.1 a0_t.1.2.2],.int .i64 a1_n]) Tryz.func50 rfl rfl (Nat.le_of_ble_eq_true rfl) (by rw [zI]; exact h)
def j1:An :=
 .s (.r [none]) (.s (.r [none,none,some tI,none,none]) (.x))
def dY (a0_s:Option Addr × Nat × Nat) (a1_f:Value):T :=
 .op (aa eB #[.slice a0_s.1 a0_s.2.1 a0_s.2.2,a1_f]) tI fun r1 =>
 .ret #[.v (.bool (decide ((r1:Int)≥0)))]
theorem km (a0_s:Option Addr × Nat × Nat) (a1_f:Value):bh Tryz.prog Tryz.f76 j1 [.slice a0_s.1 a0_s.2.1 a0_s.2.2,a1_f]=dY a0_s a1_f:=by kernel_rfl
theorem kn {ε σ β:Type} {I:av ε σ} {t:Ty} {s:Sp ε σ β} {Rel:β→t.den→al→Fact} {Γ:List Fact} (a0_s:Option Addr × Nat × Nat) (a1_f:Value) (h:Sim Tryz.prog I t Rel noLabel none (dY a0_s a1_f) s [] Γ):MeetsO Tryz.prog I (aa dZ #[.slice a0_s.1 a0_s.2.1 a0_s.2.2,a1_f]) t s Rel Γ :=
 aj (args:=[.slice a0_s.1 a0_s.2.1 a0_s.2.2,a1_f]) Tryz.func76 rfl rfl (Nat.le_of_ble_eq_true rfl) (by rw [km]; exact h)
def lD:An :=
 .s (.r [none]) (.s (.s (.r [none,none,none]) (.b (.l [(8,.b (.int .i64))] (.s (.r [none]) (.s (.c (.x) (.x)) (.s (.b (.s (.r [none,none]) (.s (.r [none,none,none,some tA,some tI,some tB]) (.c (.s (.r [none,none]) (.x)) (.x))))) (.r [none,none]))))))) (.s (.r [none]) (.x)))
def ew (a0_s:Option Addr × Nat × Nat) (a1_f:Value):T :=
 .loop 0 [.b (.int .i64)] [.int .i64 0] fun x1 =>
 .ite (decide ((x1.1:Int) < (a0_s.2.1:Int))) (
 .op (aR aM (.slice a0_s.1 a0_s.2.1 a0_s.2.2) (.int .i64 x1.1)) tA fun r2 =>
 .op (ai ak (.pointer (some r2))) tI fun r3 =>
 .op (aK a1_f #[.int .i64 r3]) tB fun r4 =>
 .ite r4 (
 .ret #[.v (.int .i64 x1.1)]) (
 .out 0 [.int .i64 (IntKind.i64.wrap (x1.1+1))])) (
 .ret #[.v (.int .i64 (-1))])
theorem mG (a0_s:Option Addr × Nat × Nat) (a1_f:Value):bh Tryz.prog Tryz.f118 lD [.slice a0_s.1 a0_s.2.1 a0_s.2.2,a1_f]=ew a0_s a1_f:=by kernel_rfl
theorem mK {ε σ β:Type} {I:av ε σ} {t:Ty} {s:Sp ε σ β} {Rel:β→t.den→al→Fact} {Γ:List Fact} (a0_s:Option Addr × Nat × Nat) (a1_f:Value) (h:Sim Tryz.prog I t Rel noLabel none (ew a0_s a1_f) s [] Γ):MeetsO Tryz.prog I (aa eB #[.slice a0_s.1 a0_s.2.1 a0_s.2.2,a1_f]) t s Rel Γ :=
 aj (args:=[.slice a0_s.1 a0_s.2.1 a0_s.2.2,a1_f]) Tryz.func118 rfl rfl (Nat.le_of_ble_eq_true rfl) (by rw [mG]; exact h)
def Bm:An :=
 .s (.r [none]) (.s (.s (.r [none]) (.b (.l [(3,.b (.int .i64))] (.s (.s (.r [none,none,none,none]) (.c (.x) (.x))) (.b (.s (.r [none,none,none,none,none,none,none,some tS,some ah,some (.tup [.b (.int .i32),.b (.int .i64),.b .bool]),none,none,none,none,none,none,none]) (.s (.s (.r [none,none]) (.c (.s (.r [none]) (.x)) (.x))) (.r [none,none,none,none])))))))) (.s (.r [none]) (.x)))
def oY (a0_s:ByteArray):T :=
 .loop 0 [.b (.int .i64)] [.int .i64 0] fun x1 =>
 .ite (decide ((x1.1:Int) < (a0_s.size:Int))) (
 .op (d8 aF (.string a0_s) (some (.int .i64 x1.1)) (some (.int .i64 (if (IntKind.i64.wrap (x1.1+4):Int) < (a0_s.size:Int) then IntKind.i64.wrap (x1.1+4) else (a0_s.size:Int)))) none) tS fun r2 =>
 .op (nR aF aC (.string r2)) ah fun r3 =>
 .op (aa lV #[.slice r3.1 r3.2.1 r3.2.2,.int .i64 0]) (.tup [.b (.int .i32),.b (.int .i64),.b .bool]) fun r4 =>
 .ite (!r4.2.2.1) (
 .ret #[.v (.bool false)]) (
 .out 0 [.int .i64 (IntKind.i64.wrap (x1.1+r4.2.1))])) (
 .ret #[.v (.bool true)])
theorem Di (a0_s:ByteArray):bh Tryz.prog Tryz.f114 Bm [.string a0_s]=oY a0_s:=by kernel_rfl
theorem DL {ε σ β:Type} {I:av ε σ} {t:Ty} {s:Sp ε σ β} {Rel:β→t.den→al→Fact} {Γ:List Fact} (a0_s:ByteArray) (h:Sim Tryz.prog I t Rel noLabel none (oY a0_s) s [] Γ):MeetsO Tryz.prog I (aa oH #[.string a0_s]) t s Rel Γ :=
 aj (args:=[.string a0_s]) Tryz.func114 rfl rfl (Nat.le_of_ble_eq_true rfl) (by rw [Di]; exact h)
def Ai:An :=
 .s (.r [none]) (.s (.r [none,none,none,none,some tB,none,none,none,none,some tS,some tS,none,some tS,some tS,some tB,none,none]) (.x))
def nK (a0_s:ByteArray) (a1_l:ByteArray):T :=
 .ite (!(a0_s.toList==kE.toList)) (
 .op (aa ef #[.string a0_s,.string k_sp]) tB fun r1 =>
 .ite (!r1) (
 .op (bT .add aF (.string k_sp) (.string a1_l)) tS fun r2 =>
 .op (bT .add aF (.string r2) (.string k_sp)) tS fun r3 =>
 .op (bT .add aF (.string k_sp) (.string a0_s)) tS fun r4 =>
 .op (bT .add aF (.string r4) (.string k_sp)) tS fun r5 =>
 .op (aa ef #[.string r3,.string r5]) tB fun r6 =>
 .ret #[.v (.bool r6)]) (
 .ret #[.v (.bool false)])) (
 .ret #[.v (.bool false)])
theorem Ci (a0_s:ByteArray) (a1_l:ByteArray):bh Tryz.prog Tryz.f115 Ai [.string a0_s,.string a1_l]=nK a0_s a1_l:=by kernel_rfl
theorem Bv {ε σ β:Type} {I:av ε σ} {t:Ty} {s:Sp ε σ β} {Rel:β→t.den→al→Fact} {Γ:List Fact} (a0_s:ByteArray) (a1_l:ByteArray) (h:Sim Tryz.prog I t Rel noLabel none (nK a0_s a1_l) s [] Γ):MeetsO Tryz.prog I (aa ip #[.string a0_s,.string a1_l]) t s Rel Γ :=
 aj (args:=[.string a0_s,.string a1_l]) Tryz.func115 rfl rfl (Nat.le_of_ble_eq_true rfl) (by rw [Ci]; exact h)
def BK:An :=
 .s (.r [none]) (.s (.s (.r [none]) (.b (.s (.s (.r [none,none]) (.j [(6,.b .bool)] (.c (.x) (.s (.r [none,none]) (.c (.x) (.s (.r [none,none]) (.c (.x) (.r [none,none])))))))) (.c (.s (.r [none]) (.x)) (.x))))) (.s (.s (.r [none,some ah,none,none]) (.b (.l [(14,.b (.int .i64))] (.s (.r [none]) (.s (.c (.x) (.x)) (.s (.b (.s (.r [some tA,some tS,none]) (.s (.r [none,some tB,none]) (.c (.s (.r [none]) (.x)) (.x))))) (.r [none,none]))))))) (.s (.r [none]) (.x))))
def oP (a0_s:ByteArray):T :=
 .join 0 [.b .bool] (
 .ite (a0_s.toList==knull.toList) (
 .out 0 [.bool true]) (
 .ite (a0_s.toList==kundefined.toList) (
 .out 0 [.bool true]) (
 .ite (a0_s.toList==ktrue.toList) (
 .out 0 [.bool true]) (
 .out 0 [.bool (a0_s.toList==kfalse.toList)])))) fun x1 =>
 .ite x1.1 (
 .ret #[.v (.bool true)]) (
 .op (aa ov #[.string a0_s,.string k_dot]) ah fun r2 =>
 .loop 0 [.b (.int .i64)] [.int .i64 0] fun x3 =>
 .ite (decide ((x3.1:Int) < (r2.2.1:Int))) (
 .op (aR cO (.slice r2.1 r2.2.1 r2.2.2) (.int .i64 x3.1)) tA fun r4 =>
 .op (ai aF (.pointer (some r4))) tS fun r5 =>
 .op (aa fK #[.string r5]) tB fun r6 =>
 .ite (!r6) (
 .ret #[.v (.bool false)]) (
 .out 0 [.int .i64 (IntKind.i64.wrap (x3.1+1))])) (
 .ret #[.v (.bool true)]))
theorem DG (a0_s:ByteArray):bh Tryz.prog Tryz.f116 BK [.string a0_s]=oP a0_s:=by kernel_rfl
theorem DD {ε σ β:Type} {I:av ε σ} {t:Ty} {s:Sp ε σ β} {Rel:β→t.den→al→Fact} {Γ:List Fact} (a0_s:ByteArray) (h:Sim Tryz.prog I t Rel noLabel none (oP a0_s) s [] Γ):MeetsO Tryz.prog I (aa oz #[.string a0_s]) t s Rel Γ :=
 aj (args:=[.string a0_s]) Tryz.func116 rfl rfl (Nat.le_of_ble_eq_true rfl) (by rw [DG]; exact h)
end
end Go.Proofs.YtjlgcpgjdgeejaaGreatDoor
end
