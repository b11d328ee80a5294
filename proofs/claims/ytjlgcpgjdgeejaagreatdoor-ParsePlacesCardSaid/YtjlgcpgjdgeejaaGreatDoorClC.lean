/- A part of the claim: general tools, trees of the program, and what its functions come to (TrB to PBuf). Conditions: as its theorems say. -/
import Derived.Test.YtjlgcpgjdgeejaaGreatDoorClB
import Derived.Laws.Slices
import Derived.Test.YtjlgcpgjdgeejaaGreatDoorProg

section
namespace Go.Proofs.YtjlgcpgjdgeejaaGreatDoor
open Go
set_option linter.unusedVariables false
set_option maxRecDepth 100000
noncomputable section
def vF:An :=
 .s (.r [none]) (.s (.b (.s (.r [none,some (.c (.agg [.int .i64,.str,.int .i64,.int .i64])),none,none,none]) (.c (.s (.r [none,some (.c (.agg [.int .i64,.str,.int .i64,.int .i64])),some tB,none]) (.x)) (.s (.r [none,some tB,none]) (.c (.s (.r [none,some (.c (.agg [.int .i64,.str,.int .i64,.int .i64])),some tB,none]) (.x)) (.x)))))) (.s (.r [none,some tB,none]) (.x)))
def lx (a0_p:Addr):T :=
 .op (aa aL #[.pointer (some a0_p)]) (.c (.agg [.int .i64,.str,.int .i64,.int .i64])) fun r1 =>
 .ite ((r1.1:Int)==1) (
 .op (aa dJ #[.pointer (some a0_p),.int .i64 1]) (.c (.agg [.int .i64,.str,.int .i64,.int .i64])) fun r2 =>
 .op (aa di #[.agg #[.int .i64 r2.1,.string r2.2.1,.int .i64 r2.2.2.1,.int .i64 r2.2.2.2.1],.string gW]) tB fun r3 =>
 .ret #[.v (.bool r3)]) (
 .op (aa bw #[.pointer (some a0_p),.string k_lp]) tB fun r4 =>
 .ite r4 (
 .op (aa hY #[.pointer (some a0_p)]) (.c (.agg [.int .i64,.str,.int .i64,.int .i64])) fun r5 =>
 .op (aa di #[.agg #[.int .i64 r5.1,.string r5.2.1,.int .i64 r5.2.2.1,.int .i64 r5.2.2.2.1],.string gW]) tB fun r6 =>
 .ret #[.v (.bool r6)]) (
 .op (aa bw #[.pointer (some a0_p),.string jU]) tB fun r7 =>
 .ret #[.v (.bool r7)]))
theorem yR (a0_p:Addr):cc Tryz.prog Tryz.f141 vF [.pointer (some a0_p)]=lx a0_p:=by kernel_rfl
theorem y7 {ε σ β:Type} {I:aN ε σ} {t:Ty} {s:Sp ε σ β} {Rel:β→t.den→ak→Fact} {Γ:List Fact} (a0_p:Addr) (h:Sim Tryz.prog I t Rel noLabel none (lx a0_p) s [] Γ):MeetsO Tryz.prog I (aa lW #[.pointer (some a0_p)]) t s Rel Γ :=
 aq (args:=[.pointer (some a0_p)]) Tryz.func141 rfl rfl (Nat.le_of_ble_eq_true rfl) (by rw [yR]; exact h)
def yA:An :=
 .s (.r [none]) (.s (.r [none,some (.c (.agg [.int .i64,.str,.int .i64,.int .i64])),none,none]) (.s (.s (.r [none,some tB]) (.c (.s (.r [none,none,some tP,none]) (.x)) (.x))) (.s (.r [none,some tP,none]) (.s (.s (.r [none,some (.c (.agg [.int .i64,.str,.int .i64,.int .i64])),none,none]) (.b (.s (.s (.r [none,some tB,none]) (.j [(19,.b .bool)] (.c (.x) (.s (.r [none,some tB,none]) (.c (.x) (.s (.r [none,some tB,none]) (.c (.x) (.s (.r [none,some tB,none]) (.c (.x) (.r [none,some tB,none])))))))))) (.c (.s (.s (.j [(51,.b .bool)] (.r [none,some tA,none,none,some tI,none,none,none,some tA,none,none,some tI,none,none,none,none,some tA,none,none,some tI,none,none])) (.c (.r [none,some tU]) (.x))) (.s (.r [none,none,none,none,some tP,some ai,some tP,none]) (.x))) (.x))))) (.s (.r [none,none]) (.x))))))
def mY (a0_p:Addr):T :=
 .op (aa aL #[.pointer (some a0_p)]) (.c (.agg [.int .i64,.str,.int .i64,.int .i64])) fun r1 =>
 .op (aa lW #[.pointer (some a0_p)]) tB fun r2 =>
 .ite r2 (
 .op (aa j0 #[.pointer (some a0_p),.int .i64 r1.2.2.1]) tP fun r3 =>
 .ret #[.v (.pointer r3)]) (
 .op (aa mJ #[.pointer (some a0_p)]) tP fun r4 =>
 .op (aa aL #[.pointer (some a0_p)]) (.c (.agg [.int .i64,.str,.int .i64,.int .i64])) fun r5 =>
 .op (aa au #[.pointer (some a0_p),.string lc]) tB fun r6 =>
 .join 0 [.b .bool] (
 .ite r6 (
 .out 0 [.bool true]) (
 .op (aa au #[.pointer (some a0_p),.string zn]) tB fun r7 =>
 .ite r7 (
 .out 0 [.bool true]) (
 .op (aa au #[.pointer (some a0_p),.string vr]) tB fun r8 =>
 .ite r8 (
 .out 0 [.bool true]) (
 .op (aa au #[.pointer (some a0_p),.string zr]) tB fun r9 =>
 .ite r9 (
 .out 0 [.bool true]) (
 .op (aa au #[.pointer (some a0_p),.string Cj]) tB fun r10 =>
 .out 0 [.bool r10]))))) fun x11 =>
 .ite x11.1 (
 .join 0 [.b .bool] (
 .op (cg (.pointer r4)) tA fun r12 =>
 .op (am ar (.pointer (some r12))) tI fun r13 =>
 .ite ((r13:Int) != 17) (
 .op (cg (.pointer r4)) tA fun r14 =>
 .op (am ar (.pointer (some r14))) tI fun r15 =>
 .ite ((r15:Int) != 29) (
 .op (cg (.pointer r4)) tA fun r16 =>
 .op (am ar (.pointer (some r16))) tI fun r17 =>
 .out 0 [.bool ((r17:Int) != 30)]) (
 .out 0 [.bool false])) (
 .out 0 [.bool false])) fun x18 =>
 .ite x18.1 (
 .op (aa cY #[.pointer (some a0_p)]) tU fun _ =>
 .op (aa bS #[.pointer (some a0_p)]) tP fun r20 =>
 .op (aG ae 2 #[(0,.pointer r4),(1,.pointer r20)]) ai fun r21 =>
 .op (aa al #[.int .i64 26,.string r5.2.1,.int .i64 0,.int .i64 r1.2.2.1,.slice r21.1 r21.2.1 r21.2.2]) tP fun r22 =>
 .ret #[.v (.pointer r22)]) (
 .op (aa bS #[.pointer (some a0_p)]) tP fun r23 =>
 .op (aG ae 2 #[(0,.pointer r4),(1,.pointer r23)]) ai fun r24 =>
 .op (aa al #[.int .i64 26,.string r5.2.1,.int .i64 0,.int .i64 r1.2.2.1,.slice r24.1 r24.2.1 r24.2.2]) tP fun r25 =>
 .ret #[.v (.pointer r25)])) (
 .ret #[.v (.pointer r4)]))
theorem zS (a0_p:Addr):cc Tryz.prog Tryz.f87 yA [.pointer (some a0_p)]=mY a0_p:=by kernel_rfl
theorem Bb {ε σ β:Type} {I:aN ε σ} {t:Ty} {s:Sp ε σ β} {Rel:β→t.den→ak→Fact} {Γ:List Fact} (a0_p:Addr) (h:Sim Tryz.prog I t Rel noLabel none (mY a0_p) s [] Γ):MeetsO Tryz.prog I (aa bS #[.pointer (some a0_p)]) t s Rel Γ :=
 aq (args:=[.pointer (some a0_p)]) Tryz.func87 rfl rfl (Nat.le_of_ble_eq_true rfl) (by rw [zS]; exact h)
def tx:An :=
 .s (.r [none]) (.s (.r [none,some tP,none,some tP,none,none]) (.s (.s (.r [none,some (.c (.agg [.int .i64,.str,.int .i64,.int .i64])),none,none]) (.j [(5,.b .ptr),(6,.b .ptr)] (.c (.s (.r [none,some tS,none]) (.r [none,none,none,none,some tP,some ai,some tP,some ai,some tA,none,some tU])) (.s (.r [none,some tP,none]) (.s (.r [none,some tU]) (.s (.r [none,some tP,none]) (.r [none,some tU]))))))) (.s (.r [none,some tU]) (.s (.s (.r [none,some tB]) (.c (.s (.r [none,none,none,none,some tP,some ai,some tP,none]) (.x)) (.x))) (.s (.r [none,none,none,none,some tP,some ai,some tP,none]) (.x))))))
def jR (a0_p:Addr) (a1_at:Int):T :=
 .op (aa cX #[.pointer (some a0_p)]) tP fun r1 =>
 .op (aa cX #[.pointer (some a0_p)]) tP fun r2 =>
 .op (aa aL #[.pointer (some a0_p)]) (.c (.agg [.int .i64,.str,.int .i64,.int .i64])) fun r3 =>
 .join 0 [.b .ptr,.b .ptr] (
 .ite ((r3.1:Int)==1) (
 .op (aa bG #[.pointer (some a0_p)]) tS fun r4 =>
 .op (aa da #[.pointer (some a0_p)]) tP fun r5 =>
 .op (aG ae 1 #[(0,.pointer r5)]) ai fun r6 =>
 .op (aa al #[.int .i64 66,.string r4,.int .i64 0,.int .i64 a1_at,.slice r6.1 r6.2.1 r6.2.2]) tP fun r7 =>
 .op (aG ae 1 #[(0,.pointer r7)]) ai fun r8 =>
 .op (cg (.pointer r2)) tA fun r9 =>
 .op (a7 ae (.pointer (some ⟨r9.block,r9.off+5,none⟩)) (.slice r8.1 r8.2.1 r8.2.2)) tU fun _ =>
 .out 0 [.pointer r1,.pointer r2]) (
 .op (aa eJ #[.pointer (some a0_p)]) tP fun r11 =>
 .op (aa aA #[.pointer (some a0_p),.string k_lp]) tU fun _ =>
 .op (aa d8 #[.pointer (some a0_p),.bool false]) tP fun r13 =>
 .op (aa aA #[.pointer (some a0_p),.string k_rp]) tU fun _ =>
 .out 0 [.pointer r11,.pointer r13])) fun x15 =>
 .op (aa aA #[.pointer (some a0_p),.string gW]) tU fun _ =>
 .op (aa bw #[.pointer (some a0_p),.string k_lc]) tB fun r17 =>
 .ite r17 (
 .op (aa cH #[.pointer (some a0_p)]) tP fun r18 =>
 .op (aG ae 3 #[(0,.pointer x15.1),(1,.pointer x15.2.1),(2,.pointer r18)]) ai fun r19 =>
 .op (aa al #[.int .i64 22,.string kE,.int .i64 0,.int .i64 a1_at,.slice r19.1 r19.2.1 r19.2.2]) tP fun r20 =>
 .ret #[.v (.pointer r20)]) (
 .op (aa bS #[.pointer (some a0_p)]) tP fun r21 =>
 .op (aG ae 3 #[(0,.pointer x15.1),(1,.pointer x15.2.1),(2,.pointer r21)]) ai fun r22 =>
 .op (aa al #[.int .i64 22,.string kE,.int .i64 0,.int .i64 a1_at,.slice r22.1 r22.2.1 r22.2.2]) tP fun r23 =>
 .ret #[.v (.pointer r23)])
theorem uL (a0_p:Addr) (a1_at:Int):cc Tryz.prog Tryz.f142 tx [.pointer (some a0_p),.int .i64 a1_at]=jR a0_p a1_at:=by kernel_rfl
theorem uH {ε σ β:Type} {I:aN ε σ} {t:Ty} {s:Sp ε σ β} {Rel:β→t.den→ak→Fact} {Γ:List Fact} (a0_p:Addr) (a1_at:Int) (h:Sim Tryz.prog I t Rel noLabel none (jR a0_p a1_at) s [] Γ):MeetsO Tryz.prog I (aa j0 #[.pointer (some a0_p),.int .i64 a1_at]) t s Rel Γ :=
 aq (args:=[.pointer (some a0_p),.int .i64 a1_at]) Tryz.func142 rfl rfl (Nat.le_of_ble_eq_true rfl) (by rw [uL]; exact h)
def yc:An :=
 .s (.r [none]) (.s (.r [none,some (.c (.agg [.int .i64,.str,.int .i64,.int .i64])),none,none]) (.s (.r [none,some tP,none]) (.s (.s (.r [none,some tB,none]) (.c (.s (.r [none,none]) (.x)) (.x))) (.s (.r [none,some tP,none]) (.s (.r [none,some tU]) (.s (.r [none,none,none,none,some tP,some ai,some tP,none]) (.x)))))))
def mD (a0_p:Addr):T :=
 .op (aa aL #[.pointer (some a0_p)]) (.c (.agg [.int .i64,.str,.int .i64,.int .i64])) fun r1 =>
 .op (aa dM #[.pointer (some a0_p),.int .i64 0]) tP fun r2 =>
 .op (aa au #[.pointer (some a0_p),.string ka]) tB fun r3 =>
 .ite (!r3) (
 .ret #[.v (.pointer r2)]) (
 .op (aa bS #[.pointer (some a0_p)]) tP fun r4 =>
 .op (aa aA #[.pointer (some a0_p),.string gc]) tU fun _ =>
 .op (aa bS #[.pointer (some a0_p)]) tP fun r6 =>
 .op (aG ae 3 #[(0,.pointer r2),(1,.pointer r4),(2,.pointer r6)]) ai fun r7 =>
 .op (aa al #[.int .i64 25,.string kE,.int .i64 0,.int .i64 r1.2.2.1,.slice r7.1 r7.2.1 r7.2.2]) tP fun r8 =>
 .ret #[.v (.pointer r8)])
theorem zU (a0_p:Addr):cc Tryz.prog Tryz.f143 yc [.pointer (some a0_p)]=mD a0_p:=by kernel_rfl
theorem AJ {ε σ β:Type} {I:aN ε σ} {t:Ty} {s:Sp ε σ β} {Rel:β→t.den→ak→Fact} {Γ:List Fact} (a0_p:Addr) (h:Sim Tryz.prog I t Rel noLabel none (mD a0_p) s [] Γ):MeetsO Tryz.prog I (aa mJ #[.pointer (some a0_p)]) t s Rel Γ :=
 aq (args:=[.pointer (some a0_p)]) Tryz.func143 rfl rfl (Nat.le_of_ble_eq_true rfl) (by rw [zU]; exact h)
def vy:An :=
 .s (.r [none]) (.s (.r [some ai,some ai,some ai,some ai,some ai,some ai,some ai,some ai,some ai,some ai,some ai,none]) (.s (.s (.r [none,none,none,none]) (.c (.s (.r [none]) (.x)) (.x))) (.s (.r [none,none,some tA,some ai,none]) (.x))))
def lz (a0_level:Int):T :=
 .op (aG dn 1 #[(0,.string mp)]) ai fun r1 =>
 .op (aG dn 1 #[(0,.string mo)]) ai fun r2 =>
 .op (aG dn 1 #[(0,.string hZ)]) ai fun r3 =>
 .op (aG dn 1 #[(0,.string pY)]) ai fun r4 =>
 .op (aG dn 1 #[(0,.string u6)]) ai fun r5 =>
 .op (aG dn 2 #[(0,.string kV),(1,.string iM)]) ai fun r6 =>
 .op (aG dn 6 #[(0,.string jU),(1,.string p7),(2,.string uI),(3,.string qf),(4,.string GS),(5,.string kas)]) ai fun r7 =>
 .op (aG dn 3 #[(0,.string qg),(1,.string qo),(2,.string kD)]) ai fun r8 =>
 .op (aG dn 2 #[(0,.string sa),(1,.string g9)]) ai fun r9 =>
 .op (aG dn 2 #[(0,.string su),(1,.string vT)]) ai fun r10 =>
 .op (aG qW 10 #[(0,.slice r1.1 r1.2.1 r1.2.2),(1,.slice r2.1 r2.2.1 r2.2.2),(2,.slice r3.1 r3.2.1 r3.2.2),(3,.slice r4.1 r4.2.1 r4.2.2),(4,.slice r5.1 r5.2.1 r5.2.2),(5,.slice r6.1 r6.2.1 r6.2.2),(6,.slice r7.1 r7.2.1 r7.2.2),(7,.slice r8.1 r8.2.1 r8.2.2),(8,.slice r9.1 r9.2.1 r9.2.2),(9,.slice r10.1 r10.2.1 r10.2.2)]) ai fun r11 =>
 .ite ((a0_level:Int)==(r11.2.1:Int)) (
 .ret #[.v (.slice none 0 0)]) (
 .op (bQ qW (.slice r11.1 r11.2.1 r11.2.2) (.int .i64 a0_level)) tA fun r12 =>
 .op (am dn (.pointer (some r12))) ai fun r13 =>
 .ret #[.v (.slice r13.1 r13.2.1 r13.2.2)])
theorem xD (a0_level:Int):cc Tryz.prog Tryz.f223 vy [.int .i64 a0_level]=lz a0_level:=by kernel_rfl
theorem ym {ε σ β:Type} {I:aN ε σ} {t:Ty} {s:Sp ε σ β} {Rel:β→t.den→ak→Fact} {Γ:List Fact} (a0_level:Int) (h:Sim Tryz.prog I t Rel noLabel none (lz a0_level) s [] Γ):MeetsO Tryz.prog I (aa ls #[.int .i64 a0_level]) t s Rel Γ :=
 aq (args:=[.int .i64 a0_level]) Tryz.func223 rfl rfl (Nat.le_of_ble_eq_true rfl) (by rw [xD]; exact h)
def wg:An :=
 .s (.r [none]) (.sc 0 [(5,.b .slice),(6,.b (.int .i64)),(7,.b .ptr)] (.s (.r [none,some ai,none]) (.s (.s (.r [none,some tB]) (.c (.s (.r [none,some tP,none]) (.x)) (.x))) (.s (.r [none,some (.c (.agg [.int .i64,.str,.int .i64,.int .i64])),none,none]) (.s (.r [none,none,none,some tP,none]) (.s (.x) (.s (.s (.r [none,none,none]) (.b (.l [(7,.b .ptr),(25,.b (.int .i64))] (.s (.r [none]) (.s (.c (.x) (.x)) (.s (.b (.s (.r [some tA,some tS,none]) (.s (.b (.s (.r [none,none,some tB,none,none]) (.c (.x) (.s (.r [none,none,none]) (.c (.r [none,none,none,some tP,some ai,some tP,none]) (.r [none,none,none,none,none,none,some tP,some ai,some tP,none])))))) (.x)))) (.r [none,none]))))))) (.s (.r [none,none]) (.x)))))))) (.s (.r [none,some ai,none]) (.s (.s (.r [none,some tB]) (.c (.s (.r [none,some tP,none]) (.x)) (.x))) (.s (.r [none,some (.c (.agg [.int .i64,.str,.int .i64,.int .i64])),none,none]) (.s (.r [none,none,none,some tP,none]) (.s (.x) (.s (.s (.r [none,none,none]) (.b (.l [(7,.b .ptr),(25,.b (.int .i64))] (.s (.r [none]) (.s (.c (.x) (.x)) (.s (.b (.s (.r [some tA,some tS,none]) (.s (.b (.s (.r [none,none,some tB,none,none]) (.c (.x) (.s (.r [none,none,none]) (.c (.r [none,none,none,some tP,some ai,some tP,none]) (.r [none,none,none,none,none,none,some tP,some ai,some tP,none])))))) (.x)))) (.r [none,none]))))))) (.s (.r [none,none]) (.x)))))))))
def i8 (a0_p:Addr) (a1_n:Int):T :=
 .join 0 [.b .slice,.b (.int .i64),.b .ptr] (
 .op (aa ls #[.int .i64 a1_n]) ai fun r1 =>
 .op (cU .eql dn (.slice r1.1 r1.2.1 r1.2.2) (.slice none 0 0)) tB fun r2 =>
 .ite r2 (
 .op (aa ga #[.pointer (some a0_p)]) tP fun r3 =>
 .ret #[.v (.pointer r3)]) (
 .op (aa aL #[.pointer (some a0_p)]) (.c (.agg [.int .i64,.str,.int .i64,.int .i64])) fun r4 =>
 .op (aa dM #[.pointer (some a0_p),.int .i64 (IntKind.i64.wrap (a1_n+1))]) tP fun r5 =>
 .loop 1 [.b .ptr,.b (.int .i64)] [.pointer r5,.int .i64 0] fun x6 =>
 .ite (decide ((x6.2.1:Int) < (r1.2.1:Int))) (
 .op (bQ dn (.slice r1.1 r1.2.1 r1.2.2) (.int .i64 x6.2.1)) tA fun r7 =>
 .op (am aK (.pointer (some r7))) tS fun r8 =>
 .op (aa au #[.pointer (some a0_p),.string r8]) tB fun r9 =>
 .ite (!r9) (
 .out 1 [.pointer x6.1,.int .i64 (IntKind.i64.wrap (x6.2.1+1))]) (
 .ite (r8.toList==kas.toList) (
 .op (aa cI #[.pointer (some a0_p)]) tP fun r10 =>
 .op (aG ae 2 #[(0,.pointer x6.1),(1,.pointer r10)]) ai fun r11 =>
 .op (aa al #[.int .i64 33,.string kE,.int .i64 0,.int .i64 r4.2.2.1,.slice r11.1 r11.2.1 r11.2.2]) tP fun r12 =>
 .out 0 [.slice r1.1 r1.2.1 r1.2.2,.int .i64 r4.2.2.1,.pointer r12]) (
 .op (aa dM #[.pointer (some a0_p),.int .i64 (IntKind.i64.wrap (a1_n+1))]) tP fun r13 =>
 .op (aG ae 2 #[(0,.pointer x6.1),(1,.pointer r13)]) ai fun r14 =>
 .op (aa al #[.int .i64 24,.string r8,.int .i64 0,.int .i64 r4.2.2.1,.slice r14.1 r14.2.1 r14.2.2]) tP fun r15 =>
 .out 0 [.slice r1.1 r1.2.1 r1.2.2,.int .i64 r4.2.2.1,.pointer r15]))) (
 .ret #[.v (.pointer x6.1)]))) fun x16 =>
 .loop 0 [.b .slice,.b (.int .i64),.b .ptr] [.slice x16.1.1 x16.1.2.1 x16.1.2.2,.int .i64 x16.2.1,.pointer x16.2.2.1] fun y17 =>
 .loop 1 [.b .ptr,.b (.int .i64)] [.pointer y17.2.2.1,.int .i64 0] fun x18 =>
 .ite (decide ((x18.2.1:Int) < (y17.1.2.1:Int))) (
 .op (bQ dn (.slice y17.1.1 y17.1.2.1 y17.1.2.2) (.int .i64 x18.2.1)) tA fun r19 =>
 .op (am aK (.pointer (some r19))) tS fun r20 =>
 .op (aa au #[.pointer (some a0_p),.string r20]) tB fun r21 =>
 .ite (!r21) (
 .out 1 [.pointer x18.1,.int .i64 (IntKind.i64.wrap (x18.2.1+1))]) (
 .ite (r20.toList==kas.toList) (
 .op (aa cI #[.pointer (some a0_p)]) tP fun r22 =>
 .op (aG ae 2 #[(0,.pointer x18.1),(1,.pointer r22)]) ai fun r23 =>
 .op (aa al #[.int .i64 33,.string kE,.int .i64 0,.int .i64 y17.2.1,.slice r23.1 r23.2.1 r23.2.2]) tP fun r24 =>
 .out 0 [.slice y17.1.1 y17.1.2.1 y17.1.2.2,.int .i64 y17.2.1,.pointer r24]) (
 .op (aa dM #[.pointer (some a0_p),.int .i64 (IntKind.i64.wrap (a1_n+1))]) tP fun r25 =>
 .op (aG ae 2 #[(0,.pointer x18.1),(1,.pointer r25)]) ai fun r26 =>
 .op (aa al #[.int .i64 24,.string r20,.int .i64 0,.int .i64 y17.2.1,.slice r26.1 r26.2.1 r26.2.2]) tP fun r27 =>
 .out 0 [.slice y17.1.1 y17.1.2.1 y17.1.2.2,.int .i64 y17.2.1,.pointer r27]))) (
 .ret #[.v (.pointer x18.1)])
theorem xi (a0_p:Addr) (a1_n:Int):cc Tryz.prog Tryz.f193 wg [.pointer (some a0_p),.int .i64 a1_n]=i8 a0_p a1_n:=by kernel_rfl
theorem qq {ε σ β:Type} {I:aN ε σ} {t:Ty} {s:Sp ε σ β} {Rel:β→t.den→ak→Fact} {Γ:List Fact} (a0_p:Addr) (a1_n:Int) (h:Sim Tryz.prog I t Rel noLabel none (i8 a0_p a1_n) s [] Γ):MeetsO Tryz.prog I (aa dM #[.pointer (some a0_p),.int .i64 a1_n]) t s Rel Γ :=
 aq (args:=[.pointer (some a0_p),.int .i64 a1_n]) Tryz.func193 rfl rfl (Nat.le_of_ble_eq_true rfl) (by rw [xi]; exact h)
def xf:An :=
 .s (.r [none]) (.s (.r [none,some (.c (.agg [.int .i64,.str,.int .i64,.int .i64])),some tA,some tU]) (.s (.b (.s (.s (.r [none,some tB,none]) (.j [(6,.b .bool)] (.c (.x) (.s (.r [none,some tB,none]) (.c (.x) (.s (.r [none,some tB,none]) (.c (.x) (.r [none,some tB,none])))))))) (.c (.s (.d (.q 0 none (.q 1 (some tS) (.q 2 none (.q 3 (some tI) (.q 4 none (.l 5 (some tP) (.l 6 (some ai) (.l 7 (some tP) (.q 8 none (.e))))))))))) (.x)) (.x)))) (.s (.r [none,some tP,none]) (.x))))
def lR (a0_p:Addr):T :=
 .op (aa aL #[.pointer (some a0_p)]) (.c (.agg [.int .i64,.str,.int .i64,.int .i64])) fun r1 =>
 .op (bD ad) tA fun r2 =>
 .op (a7 ad (.pointer (some r2)) (.agg #[.int .i64 r1.1,.string r1.2.1,.int .i64 r1.2.2.1,.int .i64 r1.2.2.2.1])) tU fun _ =>
 .op (aa au #[.pointer (some a0_p),.string rO]) tB fun r4 =>
 .join 0 [.b .bool] (
 .ite r4 (
 .out 0 [.bool true]) (
 .op (aa au #[.pointer (some a0_p),.string g9]) tB fun r5 =>
 .ite r5 (
 .out 0 [.bool true]) (
 .op (aa au #[.pointer (some a0_p),.string DZ]) tB fun r6 =>
 .ite r6 (
 .out 0 [.bool true]) (
 .op (aa au #[.pointer (some a0_p),.string El]) tB fun r7 =>
 .out 0 [.bool r7])))) fun x8 =>
 .ite x8.1 (
 .draw <|
 .opq (am aK (.pointer (some ⟨r2.block,r2.off+1,none⟩))) tS fun r9 =>
 .opq (am ar (.pointer (some ⟨r2.block,r2.off+2,none⟩))) tI fun r10 =>
 .opl (aa ga #[.pointer (some a0_p)]) tP fun r11 =>
 .opl (aG ae 1 #[(0,.pointer r11)]) ai fun r12 =>
 .opl (aa al #[.int .i64 23,.string r9,.int .i64 0,.int .i64 r10,.slice r12.1 r12.2.1 r12.2.2]) tP fun r13 =>
 .ret #[.v (.pointer r13)]) (
 .op (aa jX #[.pointer (some a0_p)]) tP fun r14 =>
 .ret #[.v (.pointer r14)])
theorem yj (a0_p:Addr):cc Tryz.prog Tryz.f224 xf [.pointer (some a0_p)]=lR a0_p:=by kernel_rfl
theorem ye {ε σ β:Type} {I:aN ε σ} {t:Ty} {s:Sp ε σ β} {Rel:β→t.den→ak→Fact} {Γ:List Fact} (a0_p:Addr) (h:Sim Tryz.prog I t Rel noLabel none (lR a0_p) s [] Γ):MeetsO Tryz.prog I (aa ga #[.pointer (some a0_p)]) t s Rel Γ :=
 aq (args:=[.pointer (some a0_p)]) Tryz.func224 rfl rfl (Nat.le_of_ble_eq_true rfl) (by rw [yj]; exact h)
def xb:An :=
 .s (.r [none]) (.s (.r [none,some tU]) (.s (.r [none,some tP,none]) (.s (.s (.r [none,some tB,none]) (.c (.r [none,none,none,some tP,none]) (.x))) (.s (.r [none,some tU]) (.s (.r [none,none]) (.x))))))
def lu (a0_p:Addr):T :=
 .op (aa aA #[.pointer (some a0_p),.string k_lp]) tU fun _ =>
 .op (aa cX #[.pointer (some a0_p)]) tP fun r2 =>
 .op (aa bw #[.pointer (some a0_p),.string k_rp]) tB fun r3 =>
 .ite (!r3) (
 .op (aa ei #[.pointer (some a0_p),.func (.func bS) #[.pointer (some a0_p)] #[]]) tP fun r4 =>
 .op (aa aA #[.pointer (some a0_p),.string k_rp]) tU fun _ =>
 .ret #[.v (.pointer r4)]) (
 .op (aa aA #[.pointer (some a0_p),.string k_rp]) tU fun _ =>
 .ret #[.v (.pointer r2)])
theorem yE (a0_p:Addr):cc Tryz.prog Tryz.f259 xb [.pointer (some a0_p)]=lu a0_p:=by kernel_rfl
theorem xq {ε σ β:Type} {I:aN ε σ} {t:Ty} {s:Sp ε σ β} {Rel:β→t.den→ak→Fact} {Γ:List Fact} (a0_p:Addr) (h:Sim Tryz.prog I t Rel noLabel none (lu a0_p) s [] Γ):MeetsO Tryz.prog I (aa gb #[.pointer (some a0_p)]) t s Rel Γ :=
 aq (args:=[.pointer (some a0_p)]) Tryz.func259 rfl rfl (Nat.le_of_ble_eq_true rfl) (by rw [yE]; exact h)
def tH:An :=
 .s (.r [none]) (.b (.s (.r [none,some (.c (.agg [.int .i64,.str,.int .i64,.int .i64])),none,none]) (.s (.r [none,some tP,none]) (.s (.x) (.s (.b (.l [(4,.b .ptr)] (.b (.b (.s (.r [none,some tB,none]) (.c (.r [none,some tS,none,none,some ai,some tP,none]) (.s (.r [none,some tB,none]) (.c (.s (.r [none,some tP,none]) (.s (.r [none,some tU]) (.r [none,none,none,some ai,some tP,none]))) (.s (.s (.r [none,some tB,none]) (.j [(33,.b .bool)] (.c (.x) (.r [none,some tB,none,none,some tB,none,none])))) (.c (.s (.r [none,some tP,none]) (.r [none,none,none,none,some tP,some ai,some tP,none])) (.s (.r [none,some tB,none]) (.c (.r [none,none,some ai,some tP,none]) (.x))))))))))))) (.s (.r [none,none]) (.x)))))))
def jQ (a0_p:Addr):T :=
 .op (aa aL #[.pointer (some a0_p)]) (.c (.agg [.int .i64,.str,.int .i64,.int .i64])) fun r1 =>
 .op (aa j1 #[.pointer (some a0_p)]) tP fun r2 =>
 .loop 0 [.b .ptr] [.pointer r2] fun x3 =>
 .op (aa au #[.pointer (some a0_p),.string k_dot]) tB fun r4 =>
 .ite r4 (
 .op (aa bG #[.pointer (some a0_p)]) tS fun r5 =>
 .op (aG ae 1 #[(0,.pointer x3.1)]) ai fun r6 =>
 .op (aa al #[.int .i64 29,.string r5,.int .i64 0,.int .i64 r1.2.2.1,.slice r6.1 r6.2.1 r6.2.2]) tP fun r7 =>
 .out 0 [.pointer r7]) (
 .op (aa au #[.pointer (some a0_p),.string k_lb]) tB fun r8 =>
 .ite r8 (
 .op (aa bS #[.pointer (some a0_p)]) tP fun r9 =>
 .op (aa aA #[.pointer (some a0_p),.string k_rb]) tU fun _ =>
 .op (aG ae 2 #[(0,.pointer x3.1),(1,.pointer r9)]) ai fun r11 =>
 .op (aa al #[.int .i64 30,.string kE,.int .i64 0,.int .i64 r1.2.2.1,.slice r11.1 r11.2.1 r11.2.2]) tP fun r12 =>
 .out 0 [.pointer r12]) (
 .op (aa bw #[.pointer (some a0_p),.string k_lp]) tB fun r13 =>
 .join 1 [.b .bool] (
 .ite r13 (
 .out 1 [.bool true]) (
 .op (aa bw #[.pointer (some a0_p),.string jU]) tB fun r14 =>
 .ite r14 (
 .op (aa k9 #[.pointer (some a0_p)]) tB fun r15 =>
 .out 1 [.bool r15]) (
 .out 1 [.bool false]))) fun x16 =>
 .ite x16.1 (
 .op (aa eH #[.pointer (some a0_p)]) tP fun r17 =>
 .op (aa gb #[.pointer (some a0_p)]) tP fun r18 =>
 .op (aG ae 3 #[(0,.pointer x3.1),(1,.pointer r17),(2,.pointer r18)]) ai fun r19 =>
 .op (aa al #[.int .i64 27,.string kE,.int .i64 0,.int .i64 r1.2.2.1,.slice r19.1 r19.2.1 r19.2.2]) tP fun r20 =>
 .out 0 [.pointer r20]) (
 .op (aa au #[.pointer (some a0_p),.string rO]) tB fun r21 =>
 .ite r21 (
 .op (aG ae 1 #[(0,.pointer x3.1)]) ai fun r22 =>
 .op (aa al #[.int .i64 34,.string kE,.int .i64 0,.int .i64 r1.2.2.1,.slice r22.1 r22.2.1 r22.2.2]) tP fun r23 =>
 .out 0 [.pointer r23]) (
 .ret #[.v (.pointer x3.1)]))))
theorem ur (a0_p:Addr):cc Tryz.prog Tryz.f244 tH [.pointer (some a0_p)]=jQ a0_p:=by kernel_rfl
theorem uG {ε σ β:Type} {I:aN ε σ} {t:Ty} {s:Sp ε σ β} {Rel:β→t.den→ak→Fact} {Γ:List Fact} (a0_p:Addr) (h:Sim Tryz.prog I t Rel noLabel none (jQ a0_p) s [] Γ):MeetsO Tryz.prog I (aa jX #[.pointer (some a0_p)]) t s Rel Γ :=
 aq (args:=[.pointer (some a0_p)]) Tryz.func244 rfl rfl (Nat.le_of_ble_eq_true rfl) (by rw [ur]; exact h)
def wb:An :=
 .s (.r [none]) (.s (.s (.r [none]) (.b (.s (.r [none,none]) (.c (.s (.r [none]) (.x)) (.s (.r [none,none]) (.c (.s (.r [none]) (.x)) (.s (.r [none,none]) (.c (.s (.r [none]) (.x)) (.s (.r [none,none]) (.c (.s (.r [none]) (.x)) (.s (.r [none,none]) (.c (.s (.r [none]) (.x)) (.x))))))))))))) (.s (.r [none]) (.x)))
def lq (a0_s:ByteArray):T :=
 .ite (a0_s.toList==ktrue.toList) (
 .ret #[.v (.int .i64 13)]) (
 .ite (a0_s.toList==kfalse.toList) (
 .ret #[.v (.int .i64 14)]) (
 .ite (a0_s.toList==knull.toList) (
 .ret #[.v (.int .i64 15)]) (
 .ite (a0_s.toList==kundefined.toList) (
 .ret #[.v (.int .i64 16)]) (
 .ite (a0_s.toList==kthis.toList) (
 .ret #[.v (.int .i64 18)]) (
 .ret #[.v (.int .i64 0)])))))
theorem yl (a0_s:ByteArray):cc Tryz.prog Tryz.f272 wb [.string a0_s]=lq a0_s:=by kernel_rfl
theorem xN {ε σ β:Type} {I:aN ε σ} {t:Ty} {s:Sp ε σ β} {Rel:β→t.den→ak→Fact} {Γ:List Fact} (a0_s:ByteArray) (h:Sim Tryz.prog I t Rel noLabel none (lq a0_s) s [] Γ):MeetsO Tryz.prog I (aa ja #[.string a0_s]) t s Rel Γ :=
 aq (args:=[.string a0_s]) Tryz.func272 rfl rfl (Nat.le_of_ble_eq_true rfl) (by rw [yl]; exact h)
def tF:An :=
 .s (.r [none]) (.s (.r [none,some (.c (.agg [.int .i64,.str,.int .i64,.int .i64])),some tA,some tU]) (.s (.s (.r [none,some tI]) (.b (.s (.r [none,none]) (.c (.s (.r [none,some (.c (.agg [.int .i64,.str,.int .i64,.int .i64]))]) (.s (.d (.q 0 none (.q 1 (some tS) (.q 3 none (.q 4 (some tI) (.l 2 (some tI) (.l 5 (some tP) (.q 6 none (.e))))))))) (.x))) (.s (.r [none,none]) (.c (.s (.r [none,some (.c (.agg [.int .i64,.str,.int .i64,.int .i64]))]) (.s (.r [none,some tS,none,some tI,some tP,none]) (.x))) (.s (.s (.r [none,none]) (.j [(29,.b .bool)] (.c (.x) (.r [none,none])))) (.c (.s (.r [none,some tP,none]) (.x)) (.s (.r [none,none]) (.c (.s (.r [none,some (.c (.agg [.int .i64,.str,.int .i64,.int .i64]))]) (.s (.r [none,some tS,none,some tI,some tP,none]) (.x))) (.s (.r [none,none]) (.c (.s (.r [none,some (.c (.agg [.int .i64,.str,.int .i64,.int .i64])),some tP,none]) (.x)) (.x))))))))))))) (.s (.b (.s (.r [none,some tB,none]) (.c (.s (.r [none,some tP,none]) (.s (.r [none,some tU]) (.s (.r [none,none]) (.x)))) (.s (.r [none,some tB,none]) (.c (.s (.r [none,some tI,some tP,none]) (.s (.s (.r [none,some tB,none]) (.c (.r [none,none,none,none,some tP,some tA,none,some ai,some tA,none,some tU]) (.x))) (.s (.r [none,some tU]) (.s (.r [none,none]) (.x))))) (.x)))))) (.s (.r [none,some tP,none]) (.x)))))
def jT (a0_a0:Addr):T :=
 .op (aa aL #[.pointer (some a0_a0)]) (.c (.agg [.int .i64,.str,.int .i64,.int .i64])) fun r1 =>
 .op (bD ad) tA fun r2 =>
 .op (a7 ad (.pointer (some r2)) (.agg #[.int .i64 r1.1,.string r1.2.1,.int .i64 r1.2.2.1,.int .i64 r1.2.2.2.1])) tU fun _ =>
 .op (am ar (.pointer (some r2))) tI fun r4 =>
 .ite ((r4:Int)==3) (
 .op (aa cl #[.pointer (some a0_a0)]) (.c (.agg [.int .i64,.str,.int .i64,.int .i64])) fun r5 =>
 .draw <|
 .opq (am aK (.pointer (some ⟨r2.block,r2.off+1,none⟩))) tS fun r6 =>
 .opq (am ar (.pointer (some ⟨r2.block,r2.off+2,none⟩))) tI fun r7 =>
 .opl (aa fD #[.string r6]) tI fun r8 =>
 .opl (aa al #[.int .i64 10,.string kE,.int .i64 r8,.int .i64 r7,.slice none 0 0]) tP fun r9 =>
 .ret #[.v (.pointer r9)]) (
 .ite ((r4:Int)==4) (
 .op (aa cl #[.pointer (some a0_a0)]) (.c (.agg [.int .i64,.str,.int .i64,.int .i64])) fun r10 =>
 .op (am aK (.pointer (some ⟨r2.block,r2.off+1,none⟩))) tS fun r11 =>
 .op (am ar (.pointer (some ⟨r2.block,r2.off+2,none⟩))) tI fun r12 =>
 .op (aa al #[.int .i64 11,.string r11,.int .i64 0,.int .i64 r12,.slice none 0 0]) tP fun r13 =>
 .ret #[.v (.pointer r13)]) (
 .join 0 [.b .bool] (
 .ite ((r4:Int)==5) (
 .out 0 [.bool true]) (
 .out 0 [.bool ((r4:Int)==6)])) fun x14 =>
 .ite x14.1 (
 .op (aa ju #[.pointer (some a0_a0)]) tP fun r15 =>
 .ret #[.v (.pointer r15)]) (
 .ite ((r4:Int)==1) (
 .op (aa cl #[.pointer (some a0_a0)]) (.c (.agg [.int .i64,.str,.int .i64,.int .i64])) fun r16 =>
 .op (am aK (.pointer (some ⟨r2.block,r2.off+1,none⟩))) tS fun r17 =>
 .op (am ar (.pointer (some ⟨r2.block,r2.off+2,none⟩))) tI fun r18 =>
 .op (aa al #[.int .i64 17,.string r17,.int .i64 0,.int .i64 r18,.slice none 0 0]) tP fun r19 =>
 .ret #[.v (.pointer r19)]) (
 .ite ((r4:Int)==2) (
 .op (am ad (.pointer (some r2))) (.c (.agg [.int .i64,.str,.int .i64,.int .i64])) fun r20 =>
 .op (aa ky #[.pointer (some a0_a0),.agg #[.int .i64 r20.1,.string r20.2.1,.int .i64 r20.2.2.1,.int .i64 r20.2.2.2.1]]) tP fun r21 =>
 .ret #[.v (.pointer r21)]) (
 .op (aa au #[.pointer (some a0_a0),.string k_lp]) tB fun r22 =>
 .ite r22 (
 .op (aa bS #[.pointer (some a0_a0)]) tP fun r23 =>
 .op (aa aA #[.pointer (some a0_a0),.string k_rp]) tU fun _ =>
 .ret #[.v (.pointer r23)]) (
 .op (aa au #[.pointer (some a0_a0),.string k_lb]) tB fun r25 =>
 .ite r25 (
 .op (am ar (.pointer (some ⟨r2.block,r2.off+2,none⟩))) tI fun r26 =>
 .op (aa al #[.int .i64 19,.string kE,.int .i64 0,.int .i64 r26,.slice none 0 0]) tP fun r27 =>
 .op (aa bw #[.pointer (some a0_a0),.string k_rb]) tB fun r28 =>
 .ite (!r28) (
 .op (aa ei #[.pointer (some a0_a0),.func (.func bS) #[.pointer (some a0_a0)] #[]]) tP fun r29 =>
 .op (cg (.pointer r29)) tA fun r30 =>
 .op (am ae (.pointer (some ⟨r30.block,r30.off+5,none⟩))) ai fun r31 =>
 .op (cg (.pointer r27)) tA fun r32 =>
 .op (a7 ae (.pointer (some ⟨r32.block,r32.off+5,none⟩)) (.slice r31.1 r31.2.1 r31.2.2)) tU fun _ =>
 .op (aa aA #[.pointer (some a0_a0),.string k_rb]) tU fun _ =>
 .ret #[.v (.pointer r27)]) (
 .op (aa aA #[.pointer (some a0_a0),.string k_rb]) tU fun _ =>
 .ret #[.v (.pointer r27)])) (
 .op (aa kI #[.pointer (some a0_a0)]) tP fun r36 =>
 .ret #[.v (.pointer r36)])))))))
theorem uJ (a0_a0:Addr):cc Tryz.prog Tryz.f257 tF [.pointer (some a0_a0)]=jT a0_a0:=by kernel_rfl
theorem ux {ε σ β:Type} {I:aN ε σ} {t:Ty} {s:Sp ε σ β} {Rel:β→t.den→ak→Fact} {Γ:List Fact} (a0_a0:Addr) (h:Sim Tryz.prog I t Rel noLabel none (jT a0_a0) s [] Γ):MeetsO Tryz.prog I (aa j1 #[.pointer (some a0_a0)]) t s Rel Γ :=
 aq (args:=[.pointer (some a0_a0)]) Tryz.func257 rfl rfl (Nat.le_of_ble_eq_true rfl) (by rw [uJ]; exact h)
def ul:An :=
 .s (.r [some tA,none]) (.s (.j [] (.b (.s (.r [none,some tS,some tI,none,none]) (.c (.s (.r [none,some (.c (.agg [.int .i64,.str,.int .i64,.int .i64]))]) (.s (.d (.q 0 none (.q 1 (some tS) (.q 3 none (.q 4 (some tI) (.l 2 (some tI) (.l 5 (some tP) (.q 6 none (.e))))))))) (.x))) (.s (.r [none,some tB,none]) (.c (.s (.r [none,some (.c (.agg [.int .i64,.str,.int .i64,.int .i64])),none,none]) (.s (.r [none,some tS,none,some tP,none]) (.s (.j [(6,.b .ptr)] (.b (.l [(6,.b .ptr)] (.s (.s (.r [none,some tB]) (.c (.x) (.x))) (.b (.r [none,some tS,none,none,some ai,some tP,none])))))) (.s (.r [none,some tP,none]) (.s (.d (.q 0 none (.q 1 (some tI) (.q 2 none (.q 3 none (.q 4 none (.l 5 (some tP) (.l 6 (some ai) (.l 7 (some tP) (.q 8 none (.e))))))))))) (.x)))))) (.s (.r [none,some tB,none]) (.c (.s (.s (.r [none,some tB]) (.c (.s (.d (.q 0 none (.q 2 none (.q 3 (some tI) (.l 1 (some tS) (.l 4 (some tP) (.q 5 none (.e)))))))) (.x)) (.x))) (.s (.d (.q 0 none (.q 1 (some tI) (.q 2 none (.l 3 (some tP) (.l 4 (some ai) (.l 5 (some tP) (.q 6 none (.e))))))))) (.x))) (.x))))))))) (.s (.r [none,some tU]) (.s (.r [none]) (.x))))
def kS (a0_a0:Addr) (a1_a1:HB [.int .i64,.str,.int .i64,.int .i64]):T :=
 .op (iK ad (.agg #[.int .i64 a1_a1.1,.string a1_a1.2.1,.int .i64 a1_a1.2.2.1,.int .i64 a1_a1.2.2.2.1])) tA fun r1 =>
 .join 0 [] (
 .op (am aK (.pointer (some ⟨r1.block,r1.off+1,none⟩))) tS fun r2 =>
 .op (aa ja #[.string r2]) tI fun r3 =>
 .ite ((r3:Int) != 0) (
 .op (aa cl #[.pointer (some a0_a0)]) (.c (.agg [.int .i64,.str,.int .i64,.int .i64])) fun r4 =>
 .draw <|
 .opq (am aK (.pointer (some ⟨r1.block,r1.off+1,none⟩))) tS fun r5 =>
 .opq (am ar (.pointer (some ⟨r1.block,r1.off+2,none⟩))) tI fun r6 =>
 .opl (aa ja #[.string r5]) tI fun r7 =>
 .opl (aa al #[.int .i64 r7,.string kE,.int .i64 0,.int .i64 r6,.slice none 0 0]) tP fun r8 =>
 .ret #[.v (.pointer r8)]) (
 .op (aa au #[.pointer (some a0_a0),.string J4]) tB fun r9 =>
 .ite r9 (
 .op (aa aL #[.pointer (some a0_a0)]) (.c (.agg [.int .i64,.str,.int .i64,.int .i64])) fun r10 =>
 .op (aa bG #[.pointer (some a0_a0)]) tS fun r11 =>
 .op (aa al #[.int .i64 17,.string r11,.int .i64 0,.int .i64 r10.2.2.1,.slice none 0 0]) tP fun r12 =>
 .join 1 [.b .ptr] (
 .loop 2 [.b .ptr] [.pointer r12] fun x13 =>
 .op (aa au #[.pointer (some a0_a0),.string k_dot]) tB fun r14 =>
 .ite r14 (
 .op (aa bG #[.pointer (some a0_a0)]) tS fun r15 =>
 .op (aG ae 1 #[(0,.pointer x13.1)]) ai fun r16 =>
 .op (aa al #[.int .i64 29,.string r15,.int .i64 0,.int .i64 r10.2.2.1,.slice r16.1 r16.2.1 r16.2.2]) tP fun r17 =>
 .out 2 [.pointer r17]) (
 .out 1 [.pointer x13.1])) fun x18 =>
 .op (aa eH #[.pointer (some a0_a0)]) tP fun r19 =>
 .draw <|
 .opq (am ar (.pointer (some ⟨r1.block,r1.off+2,none⟩))) tI fun r20 =>
 .opl (aa gb #[.pointer (some a0_a0)]) tP fun r21 =>
 .opl (aG ae 3 #[(0,.pointer x18.1),(1,.pointer r19),(2,.pointer r21)]) ai fun r22 =>
 .opl (aa al #[.int .i64 28,.string kE,.int .i64 0,.int .i64 r20,.slice r22.1 r22.2.1 r22.2.2]) tP fun r23 =>
 .ret #[.v (.pointer r23)]) (
 .op (aa au #[.pointer (some a0_a0),.string GA]) tB fun r24 =>
 .ite r24 (
 .op (aa au #[.pointer (some a0_a0),.string k_dot]) tB fun r25 =>
 .ite r25 (
 .draw <|
 .opq (am ar (.pointer (some ⟨r1.block,r1.off+2,none⟩))) tI fun r26 =>
 .opl (aa bG #[.pointer (some a0_a0)]) tS fun r27 =>
 .opl (aa al #[.int .i64 32,.string r27,.int .i64 0,.int .i64 r26,.slice none 0 0]) tP fun r28 =>
 .ret #[.v (.pointer r28)]) (
 .draw <|
 .opq (am ar (.pointer (some ⟨r1.block,r1.off+2,none⟩))) tI fun r29 =>
 .opl (aa gb #[.pointer (some a0_a0)]) tP fun r30 =>
 .opl (aG ae 1 #[(0,.pointer r30)]) ai fun r31 =>
 .opl (aa al #[.int .i64 31,.string kE,.int .i64 0,.int .i64 r29,.slice r31.1 r31.2.1 r31.2.2]) tP fun r32 =>
 .ret #[.v (.pointer r32)])) (
 .out 0 [])))) fun x33 =>
 .op (aa cY #[.pointer (some a0_a0)]) tU fun _ =>
 .ret #[.v (.pointer none)]
theorem va (a0_a0:Addr) (a1_a1:HB [.int .i64,.str,.int .i64,.int .i64]):cc Tryz.prog Tryz.f264 ul [.pointer (some a0_a0),.agg #[.int .i64 a1_a1.1,.string a1_a1.2.1,.int .i64 a1_a1.2.2.1,.int .i64 a1_a1.2.2.2.1]]=kS a0_a0 a1_a1:=by kernel_rfl
theorem wZ {ε σ β:Type} {I:aN ε σ} {t:Ty} {s:Sp ε σ β} {Rel:β→t.den→ak→Fact} {Γ:List Fact} (a0_a0:Addr) (a1_a1:HB [.int .i64,.str,.int .i64,.int .i64]) (h:Sim Tryz.prog I t Rel noLabel none (kS a0_a0 a1_a1) s [] Γ):MeetsO Tryz.prog I (aa ky #[.pointer (some a0_a0),.agg #[.int .i64 a1_a1.1,.string a1_a1.2.1,.int .i64 a1_a1.2.2.1,.int .i64 a1_a1.2.2.2.1]]) t s Rel Γ :=
 aq (args:=[.pointer (some a0_a0),.agg #[.int .i64 a1_a1.1,.string a1_a1.2.1,.int .i64 a1_a1.2.2.1,.int .i64 a1_a1.2.2.2.1]]) Tryz.func264 rfl rfl (Nat.le_of_ble_eq_true rfl) (by rw [va]; exact h)
def sf:An :=
 .s (.r [none]) (.s (.r [none,some (.c (.agg [.int .i64,.str,.int .i64,.int .i64])),some tA,some tU]) (.s (.d (.q 0 none (.q 1 (some tI) (.q 2 none (.q 3 (some tS) (.q 4 none (.q 5 (some tI) (.l 6 (some tP) (.l 7 (some ai) (.l 8 (some tP) (.q 9 none (.e)))))))))))) (.s (.b (.l [] (.s (.s (.j [(24,.b .bool)] (.r [none,some tI,none,none,none,some tI,none,none])) (.c (.x) (.x))) (.b (.s (.d (.q 0 none (.q 1 none (.q 2 (some tA) (.q 3 none (.q 4 (some ai) (.q 5 none (.l 6 (some tP) (.l 7 (some ai) (.l 8 (some ai) (.q 9 (some tA) (.q 10 none (.l 11 (some tU) (.e)))))))))))))) (.s (.s (.r [none,some (.c (.agg [.int .i64,.str,.int .i64,.int .i64])),none,none]) (.s (.j [(44,.b .bool)] (.r [none,none,none,none,none,none])) (.j [] (.c (.r [none,some tU]) (.x))))) (.s (.r [none,some (.c (.agg [.int .i64,.str,.int .i64,.int .i64])),some tU]) (.d (.q 0 none (.q 1 none (.q 2 (some tA) (.q 3 none (.q 4 (some ai) (.q 5 none (.q 6 (some tS) (.q 7 none (.q 8 (some tI) (.l 9 (some tP) (.l 10 (some ai) (.l 11 (some ai) (.q 12 (some tA) (.q 13 none (.l 14 (some tU) (.e)))))))))))))))))))))))) (.s (.r [none,none]) (.x)))))
def jm (a0_p:Addr):T :=
 .op (aa cl #[.pointer (some a0_p)]) (.c (.agg [.int .i64,.str,.int .i64,.int .i64])) fun r1 =>
 .op (bD ad) tA fun r2 =>
 .op (a7 ad (.pointer (some r2)) (.agg #[.int .i64 r1.1,.string r1.2.1,.int .i64 r1.2.2.1,.int .i64 r1.2.2.2.1])) tU fun _ =>
 .draw <|
 .opq (am ar (.pointer (some ⟨r2.block,r2.off+2,none⟩))) tI fun r4 =>
 .opq (am aK (.pointer (some ⟨r2.block,r2.off+1,none⟩))) tS fun r5 =>
 .opq (am ar (.pointer (some ⟨r2.block,r2.off+2,none⟩))) tI fun r6 =>
 .opl (aa al #[.int .i64 11,.string r5,.int .i64 0,.int .i64 r6,.slice none 0 0]) tP fun r7 =>
 .opl (aG ae 1 #[(0,.pointer r7)]) ai fun r8 =>
 .opl (aa al #[.int .i64 12,.string kE,.int .i64 0,.int .i64 r4,.slice r8.1 r8.2.1 r8.2.2]) tP fun r9 =>
 .loop 0 [] [] fun x10 =>
 .join 1 [.b .bool] (
 .op (am ar (.pointer (some r2))) tI fun r11 =>
 .ite ((r11:Int) != 5) (
 .op (am ar (.pointer (some r2))) tI fun r12 =>
 .out 1 [.bool ((r12:Int) != 8)]) (
 .out 1 [.bool false])) fun x13 =>
 .ite x13.1 (
 .draw <|
 .opq (cg (.pointer r9)) tA fun r14 =>
 .opq (am ae (.pointer (some ⟨r14.block,r14.off+5,none⟩))) ai fun r15 =>
 .opl (aa bS #[.pointer (some a0_p)]) tP fun r16 =>
 .opl (aG ae 1 #[(0,.pointer r16)]) ai fun r17 =>
 .opl (cW #[ae,ae] ae #[.slice r15.1 r15.2.1 r15.2.2,.slice r17.1 r17.2.1 r17.2.2]) ai fun r18 =>
 .opq (cg (.pointer r9)) tA fun r19 =>
 .op (a7 ae (.pointer (some ⟨r19.block,r19.off+5,none⟩)) (.slice r18.1 r18.2.1 r18.2.2)) tU fun _ =>
 .op (aa aL #[.pointer (some a0_p)]) (.c (.agg [.int .i64,.str,.int .i64,.int .i64])) fun r21 =>
 .join 1 [.b .bool] (
 .ite ((r21.1:Int) != 7) (
 .out 1 [.bool ((r21.1:Int) != 8)]) (
 .out 1 [.bool false])) fun x22 =>
 .join 1 [] (
 .ite x22.1 (
 .op (aa cY #[.pointer (some a0_p)]) tU fun _ =>
 .out 1 []) (
 .out 1 [])) fun x24 =>
 .op (aa cl #[.pointer (some a0_p)]) (.c (.agg [.int .i64,.str,.int .i64,.int .i64])) fun r25 =>
 .op (a7 ad (.pointer (some r2)) (.agg #[.int .i64 r25.1,.string r25.2.1,.int .i64 r25.2.2.1,.int .i64 r25.2.2.2.1])) tU fun _ =>
 .draw <|
 .opq (cg (.pointer r9)) tA fun r27 =>
 .opq (am ae (.pointer (some ⟨r27.block,r27.off+5,none⟩))) ai fun r28 =>
 .opq (am aK (.pointer (some ⟨r2.block,r2.off+1,none⟩))) tS fun r29 =>
 .opq (am ar (.pointer (some ⟨r2.block,r2.off+2,none⟩))) tI fun r30 =>
 .opl (aa al #[.int .i64 11,.string r29,.int .i64 0,.int .i64 r30,.slice none 0 0]) tP fun r31 =>
 .opl (aG ae 1 #[(0,.pointer r31)]) ai fun r32 =>
 .opl (cW #[ae,ae] ae #[.slice r28.1 r28.2.1 r28.2.2,.slice r32.1 r32.2.1 r32.2.2]) ai fun r33 =>
 .opq (cg (.pointer r9)) tA fun r34 =>
 .op (a7 ae (.pointer (some ⟨r34.block,r34.off+5,none⟩)) (.slice r33.1 r33.2.1 r33.2.2)) tU fun _ =>
 .out 0 []) (
 .ret #[.v (.pointer r9)])
theorem tJ (a0_p:Addr):cc Tryz.prog Tryz.f263 sf [.pointer (some a0_p)]=jm a0_p:=by kernel_rfl
theorem tG {ε σ β:Type} {I:aN ε σ} {t:Ty} {s:Sp ε σ β} {Rel:β→t.den→ak→Fact} {Γ:List Fact} (a0_p:Addr) (h:Sim Tryz.prog I t Rel noLabel none (jm a0_p) s [] Γ):MeetsO Tryz.prog I (aa ju #[.pointer (some a0_p)]) t s Rel Γ :=
 aq (args:=[.pointer (some a0_p)]) Tryz.func263 rfl rfl (Nat.le_of_ble_eq_true rfl) (by rw [tJ]; exact h)
def uw:An :=
 .s (.r [none]) (.b (.s (.r [none,some (.c (.agg [.int .i64,.str,.int .i64,.int .i64])),none,some tP,none]) (.s (.r [none,some tU]) (.s (.x) (.s (.j [] (.b (.l [] (.s (.s (.r [none,some tB,none]) (.c (.x) (.x))) (.b (.s (.r [none,some (.c (.agg [.int .i64,.str,.int .i64,.int .i64])),none,none]) (.s (.r [none,some tS,none]) (.s (.r [none,none,some tP,none]) (.s (.s (.r [none,some tB]) (.j [(6,.b .ptr)] (.c (.r [none,some tP,none]) (.x)))) (.s (.d (.q 0 none (.q 1 none (.q 2 (some tA) (.q 3 none (.q 4 (some ai) (.q 5 none (.q 6 none (.q 7 none (.l 8 (some ai) (.l 9 (some tP) (.l 10 (some ai) (.l 11 (some ai) (.q 12 (some tA) (.q 13 none (.l 14 (some tU) (.e))))))))))))))))) (.s (.r [none,some tB,none]) (.c (.x) (.x))))))))))))) (.s (.r [none,some tU]) (.s (.r [none,none]) (.x))))))))
def kL (a0_p:Addr):T :=
 .op (aa aL #[.pointer (some a0_p)]) (.c (.agg [.int .i64,.str,.int .i64,.int .i64])) fun r1 =>
 .op (aa al #[.int .i64 20,.string kE,.int .i64 0,.int .i64 r1.2.2.1,.slice none 0 0]) tP fun r2 =>
 .op (aa aA #[.pointer (some a0_p),.string k_lc]) tU fun _ =>
 .join 0 [] (
 .loop 1 [] [] fun x4 =>
 .op (aa bw #[.pointer (some a0_p),.string k_rc]) tB fun r5 =>
 .ite (!r5) (
 .op (aa aL #[.pointer (some a0_p)]) (.c (.agg [.int .i64,.str,.int .i64,.int .i64])) fun r6 =>
 .op (aa bG #[.pointer (some a0_p)]) tS fun r7 =>
 .op (aa al #[.int .i64 17,.string r7,.int .i64 0,.int .i64 r6.2.2.1,.slice none 0 0]) tP fun r8 =>
 .op (aa au #[.pointer (some a0_p),.string gc]) tB fun r9 =>
 .join 2 [.b .ptr] (
 .ite r9 (
 .op (aa bS #[.pointer (some a0_p)]) tP fun r10 =>
 .out 2 [.pointer r10]) (
 .out 2 [.pointer r8])) fun x11 =>
 .draw <|
 .opq (cg (.pointer r2)) tA fun r12 =>
 .opq (am ae (.pointer (some ⟨r12.block,r12.off+5,none⟩))) ai fun r13 =>
 .opl (aG ae 1 #[(0,.pointer x11.1)]) ai fun r14 =>
 .opl (aa al #[.int .i64 21,.string r7,.int .i64 0,.int .i64 r6.2.2.1,.slice r14.1 r14.2.1 r14.2.2]) tP fun r15 =>
 .opl (aG ae 1 #[(0,.pointer r15)]) ai fun r16 =>
 .opl (cW #[ae,ae] ae #[.slice r13.1 r13.2.1 r13.2.2,.slice r16.1 r16.2.1 r16.2.2]) ai fun r17 =>
 .opq (cg (.pointer r2)) tA fun r18 =>
 .op (a7 ae (.pointer (some ⟨r18.block,r18.off+5,none⟩)) (.slice r17.1 r17.2.1 r17.2.2)) tU fun _ =>
 .op (aa au #[.pointer (some a0_p),.string gd]) tB fun r20 =>
 .ite (!r20) (
 .out 0 []) (
 .out 1 [])) (
 .out 0 [])) fun x21 =>
 .op (aa aA #[.pointer (some a0_p),.string k_rc]) tU fun _ =>
 .ret #[.v (.pointer r2)]
theorem xe (a0_p:Addr):cc Tryz.prog Tryz.f265 uw [.pointer (some a0_p)]=kL a0_p:=by kernel_rfl
theorem vq {ε σ β:Type} {I:aN ε σ} {t:Ty} {s:Sp ε σ β} {Rel:β→t.den→ak→Fact} {Γ:List Fact} (a0_p:Addr) (h:Sim Tryz.prog I t Rel noLabel none (kL a0_p) s [] Γ):MeetsO Tryz.prog I (aa kI #[.pointer (some a0_p)]) t s Rel Γ :=
 aq (args:=[.pointer (some a0_p)]) Tryz.func265 rfl rfl (Nat.le_of_ble_eq_true rfl) (by rw [xe]; exact h)
end
end Go.Proofs.YtjlgcpgjdgeejaaGreatDoor
end

section
namespace Go.Proofs.YtjlgcpgjdgeejaaGreatDoor
open Go
set_option linter.unusedSimpArgs false
set_option linter.unusedVariables false
set_option linter.constructorNameAsVariable false
set_option maxRecDepth 100000
theorem Eg {ε σ:Type} (I:aN ε σ) (s:ByteArray):Meets PG I (aa ja #[.string s]) tI (Pure.pure (dP s)) bm []:=by
 refine xN s ?_
 unfold lq
 have fin:∀ (c:Int),c=dP s→Sim PG I tI (pl bm) noLabel none (.ret #[.v (.int .i64 c)]) (Pure.pure (dP s)) [] []:=fun c hc=>av (t:=tI) c rfl (fun F _=>hc)
 refine qE (fun h1=>fin _ (by unfold dP; rw [h1]; rfl)) fun h1=>?_
 refine qE (fun h2=>fin _ (by unfold dP; rw [h1,h2]; rfl)) fun h2=>?_
 refine qE (fun h3=>fin _ (by unfold dP; rw [h1,h2,h3]; rfl)) fun h3=>?_
 refine qE (fun h4=>fin _ (by unfold dP; rw [h1,h2,h3,h4]; rfl)) fun h4=>?_
 refine qE (fun h5=>fin _ (by unfold dP; rw [h1,h2,h3,h4,h5]; rfl)) fun h5=>?_
 exact fin _ (by unfold dP; rw [h1,h2,h3,h4,h5]; rfl)
theorem Eb (pb:Nat):Meets PG (PI pb) (aa lW #[.pointer (some (aR pb))]) tB qr bm []:=by
 refine y7 (aR pb) ?_
 unfold lx qr
 (with_reducible repeat (first | refine sA ?_ | refine sB ?_ | refine sC ?_ | refine sD ?_ | refine sE ?_ | refine sF ?_))
 first | refine ag (bk _) (fun _ h=>nomatch h) fun r1 b=>Sim.prop fun h=>?_ | refine af (bk _) (fun _ h=>nomatch h) fun r1 b=>Sim.prop fun h=>?_
 subst h
 (with_reducible repeat (first | refine sA ?_ | refine sB ?_ | refine sC ?_ | refine sD ?_ | refine sE ?_ | refine sF ?_))
 (first | refine qA (fun h=>?_) fun h=>?_ | refine qB (fun h=>?_) fun h=>?_ | refine qC (fun h=>?_) fun h=>?_ | refine qD (fun h=>?_) fun h=>?_ | refine qE (fun h=>?_) fun h=>?_) -- ((r1.1:Int)==1)
 ·skip
  (with_reducible repeat (first | refine sA ?_ | refine sB ?_ | refine sC ?_ | refine sD ?_ | refine sE ?_ | refine sF ?_))
  first | refine ag (eM _ _ (by decide) (by decide)) (fun _ h=>nomatch h) fun r2 b=>Sim.prop fun h=>?_ | refine af (eM _ _ (by decide) (by decide)) (fun _ h=>nomatch h) fun r2 b=>Sim.prop fun h=>?_
  subst h
  refine fA (jD _ _ _) (fun _ h=>nomatch h) ?_
  exact av (t:=tB) _ rfl (fun F _=>rfl)
 ·skip
  (with_reducible repeat (first | refine sA ?_ | refine sB ?_ | refine sC ?_ | refine sD ?_ | refine sE ?_ | refine sF ?_))
  first | refine ag (cr _ _) (fun _ h=>nomatch h) fun r4 b=>Sim.prop fun h=>?_ | refine af (cr _ _) (fun _ h=>nomatch h) fun r4 b=>Sim.prop fun h=>?_
  subst h
  (with_reducible repeat (first | refine sA ?_ | refine sB ?_ | refine sC ?_ | refine sD ?_ | refine sE ?_ | refine sF ?_))
  (first | refine qA (fun h=>?_) fun h=>?_ | refine qB (fun h=>?_) fun h=>?_ | refine qC (fun h=>?_) fun h=>?_ | refine qD (fun h=>?_) fun h=>?_ | refine qE (fun h=>?_) fun h=>?_) -- r4
  ·skip
   (with_reducible repeat (first | refine sA ?_ | refine sB ?_ | refine sC ?_ | refine sD ?_ | refine sE ?_ | refine sF ?_))
   first | refine ag (qK _) (fun _ h=>nomatch h) fun r5 b=>Sim.prop fun h=>?_ | refine af (qK _) (fun _ h=>nomatch h) fun r5 b=>Sim.prop fun h=>?_
   subst h
   refine fA (jD _ _ _) (fun _ h=>nomatch h) ?_
   exact av (t:=tB) _ rfl (fun F _=>rfl)
  ·skip
   (with_reducible repeat (first | refine sA ?_ | refine sB ?_ | refine sC ?_ | refine sD ?_ | refine sE ?_ | refine sF ?_))
   first | refine ag (cr _ _) (fun _ h=>nomatch h) fun r7 b=>Sim.prop fun h=>?_ | refine af (cr _ _) (fun _ h=>nomatch h) fun r7 b=>Sim.prop fun h=>?_
   subst h
   exact av (t:=tB) _ rfl (fun F _=>rfl)
theorem nW {R:a6} (hR:cJ R) (pb:Nat):Meets PG (PI pb) (aa gb #[.pointer (some (aR pb))]) tP (jA R) NodeF []:=by
 refine xq (aR pb) ?_
 unfold lu jA
 (with_reducible repeat (first | refine sA ?_ | refine sB ?_ | refine sC ?_ | refine sD ?_ | refine sE ?_ | refine sF ?_))
 first | refine ag (aJ _ _) (fun _ h=>nomatch h) fun x b=>?_ | refine af (aJ _ _) (fun _ h=>nomatch h) fun x b=>?_
 (with_reducible repeat (first | refine sA ?_ | refine sB ?_ | refine sC ?_ | refine sD ?_ | refine sE ?_ | refine sF ?_))
 first | refine ag (fe _) (fun _ h=>nomatch h) fun r2 nr2=>?_ | refine af (fe _) (fun _ h=>nomatch h) fun r2 nr2=>?_
 (with_reducible repeat (first | refine sA ?_ | refine sB ?_ | refine sC ?_ | refine sD ?_ | refine sE ?_ | refine sF ?_))
 first | refine ag (cr _ _) (fun _ h=>nomatch h) fun r3 b=>Sim.prop fun h=>?_ | refine af (cr _ _) (fun _ h=>nomatch h) fun r3 b=>Sim.prop fun h=>?_
 subst h
 (with_reducible repeat (first | refine sA ?_ | refine sB ?_ | refine sC ?_ | refine sD ?_ | refine sE ?_ | refine sF ?_))
 (first | refine qA (fun h=>?_) fun h=>?_ | refine qB (fun h=>?_) fun h=>?_ | refine qC (fun h=>?_) fun h=>?_ | refine qD (fun h=>?_) fun h=>?_ | refine qE (fun h=>?_) fun h=>?_) -- (!r3)
 ·skip
  (with_reducible repeat (first | refine sA ?_ | refine sB ?_ | refine sC ?_ | refine sD ?_ | refine sE ?_ | refine sF ?_))
  first | refine iZ (gO pb _ _ R.fuel (Nat.le_trans hR.fuel (by decide)) (MeetsO.congr (fP _ _) (hR.expr _))) (fun _ h=>nomatch h) fun r4 nr4 Kr4=>?_ | refine lf (gO pb _ _ R.fuel (Nat.le_trans hR.fuel (by decide)) (MeetsO.congr (fP _ _) (hR.expr _))) (fun _ h=>nomatch h) fun r4 nr4 Kr4=>?_
  refine dC (by repeat (first | exact mz | apply ms)) ?_
  (with_reducible repeat (first | refine sA ?_ | refine sB ?_ | refine sC ?_ | refine sD ?_ | refine sE ?_ | refine sF ?_))
  first | refine ag (aJ _ _) (fun _ h=>nomatch h) fun x b=>?_ | refine af (aJ _ _) (fun _ h=>nomatch h) fun x b=>?_
  (with_reducible repeat (first | refine sA ?_ | refine sB ?_ | refine sC ?_ | refine sD ?_ | refine sE ?_ | refine sF ?_))
  exact av (t:=tP) _ rfl (fun F hF=>hF _ (by repeat (first | exact mz | apply ms)))
 ·skip
  (with_reducible repeat (first | refine sA ?_ | refine sB ?_ | refine sC ?_ | refine sD ?_ | refine sE ?_ | refine sF ?_))
  first | refine ag (aJ _ _) (fun _ h=>nomatch h) fun x b=>?_ | refine af (aJ _ _) (fun _ h=>nomatch h) fun x b=>?_
  (with_reducible repeat (first | refine sA ?_ | refine sB ?_ | refine sC ?_ | refine sD ?_ | refine sE ?_ | refine sF ?_))
  exact av (t:=tP) _ rfl (fun F hF=>hF _ (by repeat (first | exact mz | apply ms)))
theorem wI {R:a6} (hR:cJ R) (pb:Nat):Meets PG (PI pb) (aa ju #[.pointer (some (aR pb))]) tP (ke R) NodeF []:=by
 refine tG (aR pb) ?_
 unfold jm ke
 refine ag (dx _) (fun _ h=>nomatch h) fun r1 b=>Sim.prop fun h=>?_
 subst h
 refine aW (bT (z:=[.int .i64 0,.string kE,.int .i64 0,.int .i64 0]) (by kernel_rfl)) ?_
 rintro _ _ _ ⟨b2,rfl,rfl,rfl⟩
 refine aW (br (L1:=[]) (T:=ad) (c:=true) rfl (by kernel_rfl) rfl (Nat.le_of_ble_eq_true rfl) (by simp [Value.cells,Value.oneCell'])) ?_
 rintro _ _ _ ⟨rfl,rfl⟩
 show Sim PG (PI pb) tP (pl NodeF) noLabel none _ _ [(b2,ap ad (aP r1))] _
 refine dD [(b2,ap ad (aP r1))] (fun p hp=>hp) ?_
 refine dv (t1:=tI) (Tok.pos r1) (cf (QRd.own (List.mem_cons_self ..)) (by kernel_rfl) rfl rfl) ?_
 refine dv (t1:=tS) (Tok.text r1) (cf (QRd.own (List.mem_cons_self ..)) (by kernel_rfl) rfl rfl) ?_
 refine dv (t1:=tI) (Tok.pos r1) (cf (QRd.own (List.mem_cons_self ..)) (by kernel_rfl) rfl rfl) ?_
 refine gJ fun r7=>?_
 refine ed (rF [r7] rfl (by decide) (by decide) (by kernel_rfl)) ?_
 rintro x _ _ ⟨K2,rfl,rfl,hb⟩
 refine ⟨fun p hp=>List.mem_append_right _ hp,?_⟩
 refine ed (uM _ _ _ _ x) ?_
 rintro _ _ _ ⟨bx,rfl,rfl,rfl⟩
 refine ⟨fun p hp=>List.mem_cons_of_mem _ (List.mem_append_right _ hp),?_⟩
 refine Sim.know (A:=dl (aE 12 kE 0 (Tok.pos r1) [aE 11 (Tok.text r1) 0 (Tok.pos r1) []]) (some ⟨bx,0,none⟩) (ct bx (aE 12 kE 0 (Tok.pos r1) [aE 11 (Tok.text r1) 0 (Tok.pos r1) []]) x::K2)) (fun F hF=>⟨bx,x,[r7],K2,⟨rfl,rfl,hb⟩,NodesAt.one (hF _ (by repeat (first | exact mz | apply ms)))⟩) ?_
 refine oK (δ:=Tok × N) (fun k d=>iF R k d.1 d.2) (fun k d vs L'=>Fact.ex fun K:ak=>(Fact.prop (vs=[]∧L'=K++[(b2,ap ad (aP d.1))]∧d.2.kids.length+2 * k≤2199023255552)).both (dl d.2 (some ⟨bx,0,none⟩) K)) R.fuel (r1,_) (fun _=>rfl) rfl
  (fun F hF=>⟨ct bx _ x::K2,⟨rfl,rfl,by have:=hR.fuel; show 1+2 * R.fuel≤_; omega⟩,hF _ (List.mem_cons_self ..)⟩) (by rintro k d vs L' F ⟨K,⟨rfl,_⟩,_⟩; exact ⟨(),rfl⟩) ?_
 rintro k ⟨t,n⟩ L' ⟨⟩
 refine Sim.ex fun K=>Sim.both (Sim.prop fun ⟨_,hL,hn⟩=>?_)
 subst hL
 simp only at hn
 have hm:(b2,ap ad (aP t))∈K++[(b2,ap ad (aP t))]:=List.mem_append_right _ (List.mem_cons_self ..)
 refine km (s':=fun c=>cond c (do
   let x ← R.expr
   let u ← cj
   cond (u.kind != 7&&u.kind != 8) cz do
    let v ← dm
    iF R k v ((n.push x).push (aE 11 v.text 0 v.pos []))) (pure n)) ?_ fun x13=>?_
 ·refine aW (dt (b1:=.int .i64) (x:=Tok.kind t) (Rd.own hm) (by kernel_rfl) rfl rfl) ?_
  rintro _ _ _ ⟨rfl,rfl,rfl⟩
  refine qE (fun h=>?_) (fun h=>?_)
  ·refine aW (dt (b1:=.int .i64) (x:=Tok.kind t) (Rd.own hm) (by kernel_rfl) rfl rfl) ?_
   rintro _ _ _ ⟨rfl,rfl,rfl⟩
   exact ba _ rfl (by show cond (Tok.kind t != 5&&Tok.kind t != 8) _ _=_; rw [show (Tok.kind t != 5)=true from h,Bool.true_and])
  ·exact ba _ rfl (by show cond (Tok.kind t != 5&&Tok.kind t != 8) _ _=_; rw [show (Tok.kind t != 5)=false from h,Bool.false_and])
 ·refine qA (fun h=>?_) (fun h=>?_)
  ·refine vW [(b2,ap ad (aP t))] (fun p hp=>hp) (by repeat (first | exact mz | apply ms)) fun b sl ps K2 hx hb=>?_
   refine ef (hR.expr _) (fun _ h=>nomatch h) fun r16 nr16=>?_
   obtain rfl:bx=b:=by cases hx; rfl
   refine zk (fun p hp=>hp) hb (by repeat (first | exact mz | apply ms)) (by repeat (first | exact mz | apply ms)) (by omega) fun K=>?_
   refine ag (bk _) (fun _ h=>nomatch h) fun r21 b=>Sim.prop fun h=>?_
   subst h
   refine km (s':=fun c=>cond c cz do
    let v ← dm
    iF R k v ((n.push nr16).push (aE 11 v.text 0 v.pos []))) ?_ fun x22=>?_
   ·refine qE (fun h=>?_) (fun h=>?_)
    ·exact ba _ rfl (by rw [show (Tok.kind r21 != 7)=true from h,Bool.true_and]; rfl)
    ·exact ba _ rfl (by rw [show (Tok.kind r21 != 7)=false from h,Bool.false_and])
   ·first | refine kw ?_ ?_ | refine fI cz ?_ ?_
    ·refine qA (fun h=>?_) (fun h=>?_)
     ·exact ej (β1:=Unit) (Rel1:=fun _ _ _=>Fact.prop True) (gl _) (fun _ h=>nomatch h) (by first | exact eh | exact ez _)
     ·exact gI rfl rfl
    ·refine ag (dx _) (fun _ h=>nomatch h) fun r25 b=>Sim.prop fun h=>?_
     subst h
     refine aW (br (L1:=K) (L2:=[]) (T:=ad) (c:=true) rfl (by kernel_rfl) rfl (Nat.le_of_ble_eq_true rfl) (by simp [Value.cells,Value.oneCell'])) ?_
     rintro _ _ _ ⟨rfl,rfl⟩
     show Sim PG (PI pb) tP (pl NodeF) _ none _ _ (K++[(b2,ap ad (aP r25))]) _
     refine vW [(b2,ap ad (aP r25))] (fun p hp=>hp) (by repeat (first | exact mz | apply ms)) fun b sl ps K2 hx hb=>?_
     refine dv (t1:=tS) (Tok.text r25) (cf (QRd.own (List.mem_cons_of_mem _ (List.mem_cons_self ..))) (by kernel_rfl) rfl rfl) ?_
     refine dv (t1:=tI) (Tok.pos r25) (cf (QRd.own (List.mem_cons_of_mem _ (List.mem_cons_self ..))) (by kernel_rfl) rfl rfl) ?_
     refine gJ fun r31=>?_
     obtain rfl:bx=b:=by cases hx; rfl
     refine zk (fun p hp=>hp) hb (by repeat (first | exact mz | apply ms)) (by repeat (first | exact mz | apply ms)) (by rw [N.push_len]; omega) fun K=>?_
     refine cQ rfl ⟨(k,(r25,(n.push nr16).push (aE 11 (Tok.text r25) 0 (Tok.pos r25) []))),Nat.lt_succ_self k⟩ rfl fun F hF=>⟨K,⟨rfl,rfl,?_⟩,hF _ (List.mem_cons_self ..)⟩
     simp only [N.push_len]; omega
  ·refine dC (n:=n) (by repeat (first | exact mz | apply ms)) ?_
   exact av (t:=tP) _ rfl (fun F hF=>hF _ (by repeat (first | exact mz | apply ms)))
theorem BH {R:a6} (hR:cJ R) (pb:Nat):Meets PG (PI pb) (aa kI #[.pointer (some (aR pb))]) tP (nR R) NodeF []:=by
 refine vq (aR pb) ?_
 unfold kL nR
 (with_reducible repeat (first | refine sA ?_ | refine sB ?_ | refine sC ?_ | refine sD ?_ | refine sE ?_ | refine sF ?_))
 first | refine ag (bk _) (fun _ h=>nomatch h) fun r1 b=>Sim.prop fun h=>?_ | refine af (bk _) (fun _ h=>nomatch h) fun r1 b=>Sim.prop fun h=>?_
 subst h
 refine gA fun r2 Kr2=>?_
 (with_reducible repeat (first | refine sA ?_ | refine sB ?_ | refine sC ?_ | refine sD ?_ | refine sE ?_ | refine sF ?_))
 first | refine ag (aJ _ _) (fun _ h=>nomatch h) fun x b=>?_ | refine af (aJ _ _) (fun _ h=>nomatch h) fun x b=>?_
 refine mr (fun n=>do a8 k_rc; pure n) r2 [] ?_ fun n K=>?_
 ·skip
  refine im (od R) R.fuel _ (fun _=>rfl) rfl (by have:=hR.fuel; simp [aE,N.kids]; omega) (by repeat (first | exact mz | apply ms)) fun k n K hn=>?_
  (with_reducible repeat (first | refine sA ?_ | refine sB ?_ | refine sC ?_ | refine sD ?_ | refine sE ?_ | refine sF ?_))
  first | refine ag (cr _ _) (fun _ h=>nomatch h) fun r5 b=>Sim.prop fun h=>?_ | refine af (cr _ _) (fun _ h=>nomatch h) fun r5 b=>Sim.prop fun h=>?_
  subst h
  (with_reducible repeat (first | refine sA ?_ | refine sB ?_ | refine sC ?_ | refine sD ?_ | refine sE ?_ | refine sF ?_))
  (first | refine qA (fun h=>?_) fun h=>?_ | refine qB (fun h=>?_) fun h=>?_ | refine qC (fun h=>?_) fun h=>?_ | refine qD (fun h=>?_) fun h=>?_ | refine qE (fun h=>?_) fun h=>?_) -- (!r5)
  ·skip
   (with_reducible repeat (first | refine sA ?_ | refine sB ?_ | refine sC ?_ | refine sD ?_ | refine sE ?_ | refine sF ?_))
   first | refine ag (bk _) (fun _ h=>nomatch h) fun r6 b=>Sim.prop fun h=>?_ | refine af (bk _) (fun _ h=>nomatch h) fun r6 b=>Sim.prop fun h=>?_
   subst h
   (with_reducible repeat (first | refine sA ?_ | refine sB ?_ | refine sC ?_ | refine sD ?_ | refine sE ?_ | refine sF ?_))
   first | refine ag (ch _) (fun _ h=>nomatch h) fun r7 b=>Sim.prop fun h=>?_ | refine af (ch _) (fun _ h=>nomatch h) fun r7 b=>Sim.prop fun h=>?_
   subst h
   refine fO fun r8=>?_
   (with_reducible repeat (first | refine sA ?_ | refine sB ?_ | refine sC ?_ | refine sD ?_ | refine sE ?_ | refine sF ?_))
   first | refine ag (az _ _) (fun _ h=>nomatch h) fun r9 b=>Sim.prop fun h=>?_ | refine af (az _ _) (fun _ h=>nomatch h) fun r9 b=>Sim.prop fun h=>?_
   subst h
   refine gz NodeF ?_ fun nx11 x11=>?_
   ·skip
    (with_reducible repeat (first | refine sA ?_ | refine sB ?_ | refine sC ?_ | refine sD ?_ | refine sE ?_ | refine sF ?_))
    (first | refine qA (fun h=>?_) fun h=>?_ | refine qB (fun h=>?_) fun h=>?_ | refine qC (fun h=>?_) fun h=>?_ | refine qD (fun h=>?_) fun h=>?_ | refine qE (fun h=>?_) fun h=>?_) -- r9
    ·skip
     (with_reducible repeat (first | refine sA ?_ | refine sB ?_ | refine sC ?_ | refine sD ?_ | refine sE ?_ | refine sF ?_))
     first | refine ag (hR.expr _) (fun _ h=>nomatch h) fun r10 nr10=>?_ | refine af (hR.expr _) (fun _ h=>nomatch h) fun r10 nr10=>?_
     exact dY _ rfl rfl (fun F hF=>hF _ (by repeat (first | exact mz | apply ms)))
    ·skip
     exact dY _ rfl rfl (fun F hF=>hF _ (by repeat (first | exact mz | apply ms)))
   ·skip
    refine gr (by repeat (first | exact mz | apply ms)) fun b sl ps K2 hx hb=>?_
    refine e9 [_] [_] rfl (by decide) (by decide) (by kernel_rfl) (fun F hF=>(.cons _ _ _ _ (hF (NodeF _ _) (by repeat (first | exact mz | apply ms))) .nil)) (fun p hp=>by first | exact absurd hp List.not_mem_nil | (simp at hp; simp [hp])) fun r15=>?_
    subst hx
    refine gD hb (by repeat (first | exact mz | apply ms)) (by repeat (first | exact mz | apply ms)) (by omega) fun K=>?_
    (with_reducible repeat (first | refine sA ?_ | refine sB ?_ | refine sC ?_ | refine sD ?_ | refine sE ?_ | refine sF ?_))
    first | refine ag (az _ _) (fun _ h=>nomatch h) fun r20 b=>Sim.prop fun h=>?_ | refine af (az _ _) (fun _ h=>nomatch h) fun r20 b=>Sim.prop fun h=>?_
    subst h
    (with_reducible repeat (first | refine sA ?_ | refine sB ?_ | refine sC ?_ | refine sD ?_ | refine sE ?_ | refine sF ?_))
    (first | refine qA (fun h=>?_) fun h=>?_ | refine qB (fun h=>?_) fun h=>?_ | refine qC (fun h=>?_) fun h=>?_ | refine qD (fun h=>?_) fun h=>?_ | refine qE (fun h=>?_) fun h=>?_) -- (!r20)
    ·skip
     exact gu _ rfl rfl (by repeat (first | exact mz | apply ms))
    ·skip
     (first | refine kh _ rfl (by simp [N.push_len] at hn ⊢; omega) (by repeat (first | exact mz | apply ms)) | refine kb _ (by decide) rfl (by simp [N.push_len] at hn ⊢; omega) (by repeat (first | exact mz | apply ms)))
  ·skip
   exact gu _ rfl rfl (by repeat (first | exact mz | apply ms))
 ·skip
  (with_reducible repeat (first | refine sA ?_ | refine sB ?_ | refine sC ?_ | refine sD ?_ | refine sE ?_ | refine sF ?_))
  first | refine ag (aJ _ _) (fun _ h=>nomatch h) fun x b=>?_ | refine af (aJ _ _) (fun _ h=>nomatch h) fun x b=>?_
  refine dC (n:=_) (x:=r2) (by repeat (first | exact mz | apply ms)) ?_
  (with_reducible repeat (first | refine sA ?_ | refine sB ?_ | refine sC ?_ | refine sD ?_ | refine sE ?_ | refine sF ?_))
  exact av (t:=tP) _ rfl (fun F hF=>hF _ (by repeat (first | exact mz | apply ms)))
theorem Bp {R:a6} (hR:cJ R) (pb:Nat) (a1:Tok):Meets PG (PI pb) (aa ky #[.pointer (some (aR pb)),.agg #[.int .i64 a1.1,.string a1.2.1,.int .i64 a1.2.2.1,.int .i64 a1.2.2.2.1]]) tP (nU R a1) NodeF []:=by
 refine wZ (aR pb) a1 ?_
 unfold kS nU
 refine jP fun br1=>?_
 first | refine kw ?_ ?_ | refine fI cz ?_ ?_
 ·skip
  refine aS (b1:=.str) _ (by repeat (first | exact mz | apply ms)) (by kernel_rfl) rfl rfl ?_
  refine fA (Eg _ _) (fun _ h=>nomatch h) ?_
  (with_reducible repeat (first | refine sA ?_ | refine sB ?_ | refine sC ?_ | refine sD ?_ | refine sE ?_ | refine sF ?_))
  (first | refine qA (fun h=>?_) fun h=>?_ | refine qB (fun h=>?_) fun h=>?_ | refine qC (fun h=>?_) fun h=>?_ | refine qD (fun h=>?_) fun h=>?_ | refine qE (fun h=>?_) fun h=>?_) -- ((r3:Int) != 0)
  ·skip
   (with_reducible repeat (first | refine sA ?_ | refine sB ?_ | refine sC ?_ | refine sD ?_ | refine sE ?_ | refine sF ?_))
   first | refine ag (dx _) (fun _ h=>nomatch h) fun r4 b=>Sim.prop fun h=>?_ | refine af (dx _) (fun _ h=>nomatch h) fun r4 b=>Sim.prop fun h=>?_
   subst h
   refine dD [] (fun _ h=>nomatch h) ?_
   refine df (b1:=.str) _ (by repeat (first | exact mz | apply ms)) (by kernel_rfl) rfl rfl ?_
   refine df (b1:=.int .i64) _ (by repeat (first | exact mz | apply ms)) (by kernel_rfl) rfl rfl ?_
   refine qM (Eg _ _) (fun _ h=>nomatch h) ?_
   refine gJ fun r8=>?_
   (with_reducible repeat (first | refine sA ?_ | refine sB ?_ | refine sC ?_ | refine sD ?_ | refine sE ?_ | refine sF ?_))
   exact av (t:=tP) _ rfl (fun F hF=>hF _ (by repeat (first | exact mz | apply ms)))
  ·skip
   (with_reducible repeat (first | refine sA ?_ | refine sB ?_ | refine sC ?_ | refine sD ?_ | refine sE ?_ | refine sF ?_))
   first | refine ag (az _ _) (fun _ h=>nomatch h) fun r9 b=>Sim.prop fun h=>?_ | refine af (az _ _) (fun _ h=>nomatch h) fun r9 b=>Sim.prop fun h=>?_
   subst h
   (with_reducible repeat (first | refine sA ?_ | refine sB ?_ | refine sC ?_ | refine sD ?_ | refine sE ?_ | refine sF ?_))
   (first | refine qA (fun h=>?_) fun h=>?_ | refine qB (fun h=>?_) fun h=>?_ | refine qC (fun h=>?_) fun h=>?_ | refine qD (fun h=>?_) fun h=>?_ | refine qE (fun h=>?_) fun h=>?_) -- r9
   ·skip
    (with_reducible repeat (first | refine sA ?_ | refine sB ?_ | refine sC ?_ | refine sD ?_ | refine sE ?_ | refine sF ?_))
    first | refine ag (bk _) (fun _ h=>nomatch h) fun r10 b=>Sim.prop fun h=>?_ | refine af (bk _) (fun _ h=>nomatch h) fun r10 b=>Sim.prop fun h=>?_
    subst h
    (with_reducible repeat (first | refine sA ?_ | refine sB ?_ | refine sC ?_ | refine sD ?_ | refine sE ?_ | refine sF ?_))
    first | refine ag (ch _) (fun _ h=>nomatch h) fun r11 b=>Sim.prop fun h=>?_ | refine af (ch _) (fun _ h=>nomatch h) fun r11 b=>Sim.prop fun h=>?_
    subst h
    refine fO fun r12=>?_
    refine gz NodeF ?_ fun nx18 x18=>?_
    ·skip
     refine sg (fun k x=>membersS (Tok.pos r10) k x>>=fun x=>eY R>>=fun a=>jA R>>=fun g=>pure (aE 28 kE 0 (Tok.pos a1) [x,a,g])) R.fuel _ (fun _=>rfl) rfl (by repeat (first | exact mz | apply ms)) fun k n x13=>?_
     rw [membersS.eq_2]
     (with_reducible repeat (first | refine sA ?_ | refine sB ?_ | refine sC ?_ | refine sD ?_ | refine sE ?_ | refine sF ?_))
     first | refine ag (az _ _) (fun _ h=>nomatch h) fun r14 b=>Sim.prop fun h=>?_ | refine af (az _ _) (fun _ h=>nomatch h) fun r14 b=>Sim.prop fun h=>?_
     subst h
     (with_reducible repeat (first | refine sA ?_ | refine sB ?_ | refine sC ?_ | refine sD ?_ | refine sE ?_ | refine sF ?_))
     (first | refine qA (fun h=>?_) fun h=>?_ | refine qB (fun h=>?_) fun h=>?_ | refine qC (fun h=>?_) fun h=>?_ | refine qD (fun h=>?_) fun h=>?_ | refine qE (fun h=>?_) fun h=>?_) -- r14
     ·skip
      (with_reducible repeat (first | refine sA ?_ | refine sB ?_ | refine sC ?_ | refine sD ?_ | refine sE ?_ | refine sF ?_))
      first | refine ag (ch _) (fun _ h=>nomatch h) fun r15 b=>Sim.prop fun h=>?_ | refine af (ch _) (fun _ h=>nomatch h) fun r15 b=>Sim.prop fun h=>?_
      subst h
      refine ca [x13] [n] rfl (by decide) (by decide) (by kernel_rfl) (fun F hF=>(.cons _ _ _ _ (hF (NodeF n x13) (by repeat (first | exact mz | apply ms))) .nil)) fun r17=>?_
      (first | refine mn _ rfl (by repeat (first | exact mz | apply ms)) | refine mt _ (by decide) rfl (by repeat (first | exact mz | apply ms)))
     ·skip
      exact dY _ rfl rfl (fun F hF=>hF _ (by repeat (first | exact mz | apply ms)))
    ·skip
     (with_reducible repeat (first | refine sA ?_ | refine sB ?_ | refine sC ?_ | refine sD ?_ | refine sE ?_ | refine sF ?_))
     first | refine ag (mm hR _) (fun _ h=>nomatch h) fun r19 nr19=>?_ | refine af (mm hR _) (fun _ h=>nomatch h) fun r19 nr19=>?_
     refine dD [] (fun _ h=>nomatch h) ?_
     refine df (b1:=.int .i64) _ (by repeat (first | exact mz | apply ms)) (by kernel_rfl) rfl rfl ?_
     (with_reducible repeat (first | refine sA ?_ | refine sB ?_ | refine sC ?_ | refine sD ?_ | refine sE ?_ | refine sF ?_))
     first | refine ef (nW hR _) (fun _ h=>nomatch h) fun r21 nr21=>?_ | refine iN (nW hR _) (fun _ h=>nomatch h) fun r21 nr21=>?_
     refine e9 [x18,r19,r21] [nx18,nr19,nr21] rfl (by decide) (by decide) (by kernel_rfl) (fun F hF=>(.cons _ _ _ _ (hF (NodeF nx18 x18) (by repeat (first | exact mz | apply ms))) (.cons _ _ _ _ (hF (NodeF nr19 r19) (by repeat (first | exact mz | apply ms))) (.cons _ _ _ _ (hF (NodeF nr21 r21) (by repeat (first | exact mz | apply ms))) .nil)))) (fun p hp=>by first | exact absurd hp List.not_mem_nil | (simp at hp; simp [hp])) fun r23=>?_
     (with_reducible repeat (first | refine sA ?_ | refine sB ?_ | refine sC ?_ | refine sD ?_ | refine sE ?_ | refine sF ?_))
     exact av (t:=tP) _ rfl (fun F hF=>hF _ (by repeat (first | exact mz | apply ms)))
   ·skip
    (with_reducible repeat (first | refine sA ?_ | refine sB ?_ | refine sC ?_ | refine sD ?_ | refine sE ?_ | refine sF ?_))
    first | refine ag (az _ _) (fun _ h=>nomatch h) fun r24 b=>Sim.prop fun h=>?_ | refine af (az _ _) (fun _ h=>nomatch h) fun r24 b=>Sim.prop fun h=>?_
    subst h
    (with_reducible repeat (first | refine sA ?_ | refine sB ?_ | refine sC ?_ | refine sD ?_ | refine sE ?_ | refine sF ?_))
    (first | refine qA (fun h=>?_) fun h=>?_ | refine qB (fun h=>?_) fun h=>?_ | refine qC (fun h=>?_) fun h=>?_ | refine qD (fun h=>?_) fun h=>?_ | refine qE (fun h=>?_) fun h=>?_) -- r24
    ·skip
     (with_reducible repeat (first | refine sA ?_ | refine sB ?_ | refine sC ?_ | refine sD ?_ | refine sE ?_ | refine sF ?_))
     first | refine ag (az _ _) (fun _ h=>nomatch h) fun r25 b=>Sim.prop fun h=>?_ | refine af (az _ _) (fun _ h=>nomatch h) fun r25 b=>Sim.prop fun h=>?_
     subst h
     (with_reducible repeat (first | refine sA ?_ | refine sB ?_ | refine sC ?_ | refine sD ?_ | refine sE ?_ | refine sF ?_))
     (first | refine qA (fun h=>?_) fun h=>?_ | refine qB (fun h=>?_) fun h=>?_ | refine qC (fun h=>?_) fun h=>?_ | refine qD (fun h=>?_) fun h=>?_ | refine qE (fun h=>?_) fun h=>?_) -- r25
     ·skip
      refine dD [] (fun _ h=>nomatch h) ?_
      refine df (b1:=.int .i64) _ (by repeat (first | exact mz | apply ms)) (by kernel_rfl) rfl rfl ?_
      (with_reducible repeat (first | refine sA ?_ | refine sB ?_ | refine sC ?_ | refine sD ?_ | refine sE ?_ | refine sF ?_))
      first | refine ef (ch _) (fun _ h=>nomatch h) fun r27 b=>Sim.prop fun h=>?_ | refine iN (ch _) (fun _ h=>nomatch h) fun r27 b=>Sim.prop fun h=>?_
      subst h
      refine gJ fun r28=>?_
      (with_reducible repeat (first | refine sA ?_ | refine sB ?_ | refine sC ?_ | refine sD ?_ | refine sE ?_ | refine sF ?_))
      exact av (t:=tP) _ rfl (fun F hF=>hF _ (by repeat (first | exact mz | apply ms)))
     ·skip
      refine dD [] (fun _ h=>nomatch h) ?_
      refine df (b1:=.int .i64) _ (by repeat (first | exact mz | apply ms)) (by kernel_rfl) rfl rfl ?_
      (with_reducible repeat (first | refine sA ?_ | refine sB ?_ | refine sC ?_ | refine sD ?_ | refine sE ?_ | refine sF ?_))
      first | refine ef (nW hR _) (fun _ h=>nomatch h) fun r30 nr30=>?_ | refine iN (nW hR _) (fun _ h=>nomatch h) fun r30 nr30=>?_
      refine e9 [r30] [nr30] rfl (by decide) (by decide) (by kernel_rfl) (fun F hF=>(.cons _ _ _ _ (hF (NodeF nr30 r30) (by repeat (first | exact mz | apply ms))) .nil)) (fun p hp=>by first | exact absurd hp List.not_mem_nil | (simp at hp; simp [hp])) fun r32=>?_
      (with_reducible repeat (first | refine sA ?_ | refine sB ?_ | refine sC ?_ | refine sD ?_ | refine sE ?_ | refine sF ?_))
      exact av (t:=tP) _ rfl (fun F hF=>hF _ (by repeat (first | exact mz | apply ms)))
    ·skip
     exact gI rfl rfl
 ·skip
  exact ej (β1:=Unit) (Rel1:=fun _ _ _=>Fact.prop True) (gl _) (fun _ h=>nomatch h) (by first | exact eh | exact ez _)
theorem zd {R:a6} (hR:cJ R) (pb:Nat):Meets PG (PI pb) (aa j1 #[.pointer (some (aR pb))]) tP (la R) NodeF []:=by
 refine ux (aR pb) ?_
 unfold jT la
 (with_reducible repeat (first | refine sA ?_ | refine sB ?_ | refine sC ?_ | refine sD ?_ | refine sE ?_ | refine sF ?_))
 refine ag (xg _) (fun _ h=>nomatch h) fun r1 b=>Sim.both (Sim.prop fun hnum=>Sim.prop fun h=>?_)
 subst h
 refine gB (c:=true) (z:=[.int .i64 0,.string kE,.int .i64 0,.int .i64 0]) (by kernel_rfl) (by kernel_rfl) rfl (by simp [Value.cells,Value.oneCell']) fun br2=>?_
 refine aS (b1:=.int .i64) _ (by repeat (first | exact mz | apply ms)) (by kernel_rfl) rfl rfl ?_
 (with_reducible repeat (first | refine sA ?_ | refine sB ?_ | refine sC ?_ | refine sD ?_ | refine sE ?_ | refine sF ?_))
 (first | refine qA (fun h=>?_) fun h=>?_ | refine qB (fun h=>?_) fun h=>?_ | refine qC (fun h=>?_) fun h=>?_ | refine qD (fun h=>?_) fun h=>?_ | refine qE (fun h=>?_) fun h=>?_) -- ((r4:Int)==3)
 ·have hk:Tok.kind r1=3:=by simpa [Tok.kind] using h
  (with_reducible repeat (first | refine sA ?_ | refine sB ?_ | refine sC ?_ | refine sD ?_ | refine sE ?_ | refine sF ?_))
  first | refine ag (dx _) (fun _ h=>nomatch h) fun r5 b=>Sim.prop fun h=>?_ | refine af (dx _) (fun _ h=>nomatch h) fun r5 b=>Sim.prop fun h=>?_
  subst h
  refine dD [] (fun _ h=>nomatch h) ?_
  refine df (b1:=.str) _ (by repeat (first | exact mz | apply ms)) (by kernel_rfl) rfl rfl ?_
  refine df (b1:=.int .i64) _ (by repeat (first | exact mz | apply ms)) (by kernel_rfl) rfl rfl ?_
  refine qM (hR.num _ _ (hnum.1 hk).1 (hnum.1 hk).2) (fun _ h=>nomatch h) ?_
  refine gJ fun r9=>?_
  (with_reducible repeat (first | refine sA ?_ | refine sB ?_ | refine sC ?_ | refine sD ?_ | refine sE ?_ | refine sF ?_))
  exact av (t:=tP) _ rfl (fun F hF=>hF _ (by repeat (first | exact mz | apply ms)))
 ·skip
  (with_reducible repeat (first | refine sA ?_ | refine sB ?_ | refine sC ?_ | refine sD ?_ | refine sE ?_ | refine sF ?_))
  (first | refine qA (fun h=>?_) fun h=>?_ | refine qB (fun h=>?_) fun h=>?_ | refine qC (fun h=>?_) fun h=>?_ | refine qD (fun h=>?_) fun h=>?_ | refine qE (fun h=>?_) fun h=>?_) -- ((r4:Int)==4)
  ·skip
   (with_reducible repeat (first | refine sA ?_ | refine sB ?_ | refine sC ?_ | refine sD ?_ | refine sE ?_ | refine sF ?_))
   first | refine ag (dx _) (fun _ h=>nomatch h) fun r10 b=>Sim.prop fun h=>?_ | refine af (dx _) (fun _ h=>nomatch h) fun r10 b=>Sim.prop fun h=>?_
   subst h
   refine aS (b1:=.str) _ (by repeat (first | exact mz | apply ms)) (by kernel_rfl) rfl rfl ?_
   refine aS (b1:=.int .i64) _ (by repeat (first | exact mz | apply ms)) (by kernel_rfl) rfl rfl ?_
   refine fO fun r13=>?_
   (with_reducible repeat (first | refine sA ?_ | refine sB ?_ | refine sC ?_ | refine sD ?_ | refine sE ?_ | refine sF ?_))
   exact av (t:=tP) _ rfl (fun F hF=>hF _ (by repeat (first | exact mz | apply ms)))
  ·skip
   first | refine dg ?_ fun x14=>?_ | refine dU ?_ fun x14=>?_
   ·skip
    (with_reducible repeat (first | refine sA ?_ | refine sB ?_ | refine sC ?_ | refine sD ?_ | refine sE ?_ | refine sF ?_))
    (first | refine qA (fun h=>?_) fun h=>?_ | refine qB (fun h=>?_) fun h=>?_ | refine qC (fun h=>?_) fun h=>?_ | refine qD (fun h=>?_) fun h=>?_ | refine qE (fun h=>?_) fun h=>?_) -- ((r4:Int)==5)
    ·skip
     exact ba _ rfl (by first | rfl | (simp only [Tok.kind] at *; simp_all))
    ·skip
     exact ba _ rfl (by show cond (Tok.kind r1==5||Tok.kind r1==6) _ _=_; rw [show (Tok.kind r1==5)=false from h]; rfl)
   ·skip
    (with_reducible repeat (first | refine sA ?_ | refine sB ?_ | refine sC ?_ | refine sD ?_ | refine sE ?_ | refine sF ?_))
    (first | refine qA (fun h=>?_) fun h=>?_ | refine qB (fun h=>?_) fun h=>?_ | refine qC (fun h=>?_) fun h=>?_ | refine qD (fun h=>?_) fun h=>?_ | refine qE (fun h=>?_) fun h=>?_) -- x14.1
    ·skip
     (with_reducible repeat (first | refine sA ?_ | refine sB ?_ | refine sC ?_ | refine sD ?_ | refine sE ?_ | refine sF ?_))
     first | refine ag (wI hR _) (fun _ h=>nomatch h) fun r15 nr15=>?_ | refine af (wI hR _) (fun _ h=>nomatch h) fun r15 nr15=>?_
     (with_reducible repeat (first | refine sA ?_ | refine sB ?_ | refine sC ?_ | refine sD ?_ | refine sE ?_ | refine sF ?_))
     exact av (t:=tP) _ rfl (fun F hF=>hF _ (by repeat (first | exact mz | apply ms)))
    ·skip
     (with_reducible repeat (first | refine sA ?_ | refine sB ?_ | refine sC ?_ | refine sD ?_ | refine sE ?_ | refine sF ?_))
     (first | refine qA (fun h=>?_) fun h=>?_ | refine qB (fun h=>?_) fun h=>?_ | refine qC (fun h=>?_) fun h=>?_ | refine qD (fun h=>?_) fun h=>?_ | refine qE (fun h=>?_) fun h=>?_) -- ((r4:Int)==1)
     ·skip
      (with_reducible repeat (first | refine sA ?_ | refine sB ?_ | refine sC ?_ | refine sD ?_ | refine sE ?_ | refine sF ?_))
      first | refine ag (dx _) (fun _ h=>nomatch h) fun r16 b=>Sim.prop fun h=>?_ | refine af (dx _) (fun _ h=>nomatch h) fun r16 b=>Sim.prop fun h=>?_
      subst h
      refine aS (b1:=.str) _ (by repeat (first | exact mz | apply ms)) (by kernel_rfl) rfl rfl ?_
      refine aS (b1:=.int .i64) _ (by repeat (first | exact mz | apply ms)) (by kernel_rfl) rfl rfl ?_
      refine fO fun r19=>?_
      (with_reducible repeat (first | refine sA ?_ | refine sB ?_ | refine sC ?_ | refine sD ?_ | refine sE ?_ | refine sF ?_))
      exact av (t:=tP) _ rfl (fun F hF=>hF _ (by repeat (first | exact mz | apply ms)))
     ·skip
      (with_reducible repeat (first | refine sA ?_ | refine sB ?_ | refine sC ?_ | refine sD ?_ | refine sE ?_ | refine sF ?_))
      (first | refine qA (fun h=>?_) fun h=>?_ | refine qB (fun h=>?_) fun h=>?_ | refine qC (fun h=>?_) fun h=>?_ | refine qD (fun h=>?_) fun h=>?_ | refine qE (fun h=>?_) fun h=>?_) -- ((r4:Int)==2)
      ·skip
       refine ow (bs:=el) (_,_,_,_,()) (by repeat (first | exact mz | apply ms)) (by kernel_rfl) rfl rfl ?_
       (with_reducible repeat (first | refine sA ?_ | refine sB ?_ | refine sC ?_ | refine sD ?_ | refine sE ?_ | refine sF ?_))
       first | refine ag (Bp hR _ _) (fun _ h=>nomatch h) fun r21 nr21=>?_ | refine af (Bp hR _ _) (fun _ h=>nomatch h) fun r21 nr21=>?_
       (with_reducible repeat (first | refine sA ?_ | refine sB ?_ | refine sC ?_ | refine sD ?_ | refine sE ?_ | refine sF ?_))
       exact av (t:=tP) _ rfl (fun F hF=>hF _ (by repeat (first | exact mz | apply ms)))
      ·skip
       (with_reducible repeat (first | refine sA ?_ | refine sB ?_ | refine sC ?_ | refine sD ?_ | refine sE ?_ | refine sF ?_))
       first | refine ag (az _ _) (fun _ h=>nomatch h) fun r22 b=>Sim.prop fun h=>?_ | refine af (az _ _) (fun _ h=>nomatch h) fun r22 b=>Sim.prop fun h=>?_
       subst h
       (with_reducible repeat (first | refine sA ?_ | refine sB ?_ | refine sC ?_ | refine sD ?_ | refine sE ?_ | refine sF ?_))
       (first | refine qA (fun h=>?_) fun h=>?_ | refine qB (fun h=>?_) fun h=>?_ | refine qC (fun h=>?_) fun h=>?_ | refine qD (fun h=>?_) fun h=>?_ | refine qE (fun h=>?_) fun h=>?_) -- r22
       ·skip
        (with_reducible repeat (first | refine sA ?_ | refine sB ?_ | refine sC ?_ | refine sD ?_ | refine sE ?_ | refine sF ?_))
        first | refine ag (hR.expr _) (fun _ h=>nomatch h) fun r23 nr23=>?_ | refine af (hR.expr _) (fun _ h=>nomatch h) fun r23 nr23=>?_
        (with_reducible repeat (first | refine sA ?_ | refine sB ?_ | refine sC ?_ | refine sD ?_ | refine sE ?_ | refine sF ?_))
        first | refine ag (aJ _ _) (fun _ h=>nomatch h) fun x b=>?_ | refine af (aJ _ _) (fun _ h=>nomatch h) fun x b=>?_
        (with_reducible repeat (first | refine sA ?_ | refine sB ?_ | refine sC ?_ | refine sD ?_ | refine sE ?_ | refine sF ?_))
        exact av (t:=tP) _ rfl (fun F hF=>hF _ (by repeat (first | exact mz | apply ms)))
       ·skip
        (with_reducible repeat (first | refine sA ?_ | refine sB ?_ | refine sC ?_ | refine sD ?_ | refine sE ?_ | refine sF ?_))
        first | refine ag (az _ _) (fun _ h=>nomatch h) fun r25 b=>Sim.prop fun h=>?_ | refine af (az _ _) (fun _ h=>nomatch h) fun r25 b=>Sim.prop fun h=>?_
        subst h
        (with_reducible repeat (first | refine sA ?_ | refine sB ?_ | refine sC ?_ | refine sD ?_ | refine sE ?_ | refine sF ?_))
        (first | refine qA (fun h=>?_) fun h=>?_ | refine qB (fun h=>?_) fun h=>?_ | refine qC (fun h=>?_) fun h=>?_ | refine qD (fun h=>?_) fun h=>?_ | refine qE (fun h=>?_) fun h=>?_) -- r25
        ·skip
         refine aS (b1:=.int .i64) _ (by repeat (first | exact mz | apply ms)) (by kernel_rfl) rfl rfl ?_
         refine gA fun r27 Kr27=>?_
         (with_reducible repeat (first | refine sA ?_ | refine sB ?_ | refine sC ?_ | refine sD ?_ | refine sE ?_ | refine sF ?_))
         first | refine ag (cr _ _) (fun _ h=>nomatch h) fun r28 b=>Sim.prop fun h=>?_ | refine af (cr _ _) (fun _ h=>nomatch h) fun r28 b=>Sim.prop fun h=>?_
         subst h
         (with_reducible repeat (first | refine sA ?_ | refine sB ?_ | refine sC ?_ | refine sD ?_ | refine sE ?_ | refine sF ?_))
         (first | refine qA (fun h=>?_) fun h=>?_ | refine qB (fun h=>?_) fun h=>?_ | refine qC (fun h=>?_) fun h=>?_ | refine qD (fun h=>?_) fun h=>?_ | refine qE (fun h=>?_) fun h=>?_) -- (!r28)
         ·skip
          (with_reducible repeat (first | refine sA ?_ | refine sB ?_ | refine sC ?_ | refine sD ?_ | refine sE ?_ | refine sF ?_))
          first | refine iZ (gO pb _ _ R.fuel (Nat.le_trans hR.fuel (by decide)) (MeetsO.congr (fP _ _) (hR.expr _))) (fun _ h=>nomatch h) fun r29 nr29 Kr29=>?_ | refine lf (gO pb _ _ R.fuel (Nat.le_trans hR.fuel (by decide)) (MeetsO.congr (fP _ _) (hR.expr _))) (fun _ h=>nomatch h) fun r29 nr29 Kr29=>?_
          refine dC (by repeat (first | exact mz | apply ms)) ?_
          refine BK (n:=aE 19 kE 0 (Tok.pos r1) []) (by repeat (first | exact mz | apply ms)) (by repeat (first | exact mz | apply ms)) ?_
          (with_reducible repeat (first | refine sA ?_ | refine sB ?_ | refine sC ?_ | refine sD ?_ | refine sE ?_ | refine sF ?_))
          first | refine ag (aJ _ _) (fun _ h=>nomatch h) fun x b=>?_ | refine af (aJ _ _) (fun _ h=>nomatch h) fun x b=>?_
          skip
          (with_reducible repeat (first | refine sA ?_ | refine sB ?_ | refine sC ?_ | refine sD ?_ | refine sE ?_ | refine sF ?_))
          exact av (t:=tP) _ rfl (fun F hF=>hF _ (by repeat (first | exact mz | apply ms)))
         ·skip
          (with_reducible repeat (first | refine sA ?_ | refine sB ?_ | refine sC ?_ | refine sD ?_ | refine sE ?_ | refine sF ?_))
          first | refine ag (aJ _ _) (fun _ h=>nomatch h) fun x b=>?_ | refine af (aJ _ _) (fun _ h=>nomatch h) fun x b=>?_
          refine dC (n:=_) (x:=r27) (by repeat (first | exact mz | apply ms)) ?_
          (with_reducible repeat (first | refine sA ?_ | refine sB ?_ | refine sC ?_ | refine sD ?_ | refine sE ?_ | refine sF ?_))
          exact av (t:=tP) _ rfl (fun F hF=>hF _ (by repeat (first | exact mz | apply ms)))
        ·skip
         (with_reducible repeat (first | refine sA ?_ | refine sB ?_ | refine sC ?_ | refine sD ?_ | refine sE ?_ | refine sF ?_))
         first | refine ag (BH hR _) (fun _ h=>nomatch h) fun r36 nr36=>?_ | refine af (BH hR _) (fun _ h=>nomatch h) fun r36 nr36=>?_
         (with_reducible repeat (first | refine sA ?_ | refine sB ?_ | refine sC ?_ | refine sD ?_ | refine sE ?_ | refine sF ?_))
         exact av (t:=tP) _ rfl (fun F hF=>hF _ (by repeat (first | exact mz | apply ms)))
theorem zP {R:a6} (hR:cJ R) (pb:Nat):Meets PG (PI pb) (aa jX #[.pointer (some (aR pb))]) tP (li R) NodeF []:=by
 refine uG (aR pb) ?_
 unfold jQ li
 (with_reducible repeat (first | refine sA ?_ | refine sB ?_ | refine sC ?_ | refine sD ?_ | refine sE ?_ | refine sF ?_))
 first | refine ag (bk _) (fun _ h=>nomatch h) fun r1 b=>Sim.prop fun h=>?_ | refine af (bk _) (fun _ h=>nomatch h) fun r1 b=>Sim.prop fun h=>?_
 subst h
 (with_reducible repeat (first | refine sA ?_ | refine sB ?_ | refine sC ?_ | refine sD ?_ | refine sE ?_ | refine sF ?_))
 first | refine ag (zd hR _) (fun _ h=>nomatch h) fun r2 nr2=>?_ | refine af (zd hR _) (fun _ h=>nomatch h) fun r2 nr2=>?_
 refine sg (gT R (Tok.pos r1)) R.fuel _ (fun _=>rfl) rfl (by repeat (first | exact mz | apply ms)) fun k n x3=>?_
 (with_reducible repeat (first | refine sA ?_ | refine sB ?_ | refine sC ?_ | refine sD ?_ | refine sE ?_ | refine sF ?_))
 first | refine ag (az _ _) (fun _ h=>nomatch h) fun r4 b=>Sim.prop fun h=>?_ | refine af (az _ _) (fun _ h=>nomatch h) fun r4 b=>Sim.prop fun h=>?_
 subst h
 (with_reducible repeat (first | refine sA ?_ | refine sB ?_ | refine sC ?_ | refine sD ?_ | refine sE ?_ | refine sF ?_))
 (first | refine qA (fun h=>?_) fun h=>?_ | refine qB (fun h=>?_) fun h=>?_ | refine qC (fun h=>?_) fun h=>?_ | refine qD (fun h=>?_) fun h=>?_ | refine qE (fun h=>?_) fun h=>?_) -- r4
 ·skip
  (with_reducible repeat (first | refine sA ?_ | refine sB ?_ | refine sC ?_ | refine sD ?_ | refine sE ?_ | refine sF ?_))
  first | refine ag (ch _) (fun _ h=>nomatch h) fun r5 b=>Sim.prop fun h=>?_ | refine af (ch _) (fun _ h=>nomatch h) fun r5 b=>Sim.prop fun h=>?_
  subst h
  refine ca [x3] [n] rfl (by decide) (by decide) (by kernel_rfl) (fun F hF=>(.cons _ _ _ _ (hF (NodeF n x3) (by repeat (first | exact mz | apply ms))) .nil)) fun r7=>?_
  (first | refine mn _ rfl (by repeat (first | exact mz | apply ms)) | refine mt _ (by decide) rfl (by repeat (first | exact mz | apply ms)))
 ·skip
  (with_reducible repeat (first | refine sA ?_ | refine sB ?_ | refine sC ?_ | refine sD ?_ | refine sE ?_ | refine sF ?_))
  first | refine ag (az _ _) (fun _ h=>nomatch h) fun r8 b=>Sim.prop fun h=>?_ | refine af (az _ _) (fun _ h=>nomatch h) fun r8 b=>Sim.prop fun h=>?_
  subst h
  (with_reducible repeat (first | refine sA ?_ | refine sB ?_ | refine sC ?_ | refine sD ?_ | refine sE ?_ | refine sF ?_))
  (first | refine qA (fun h=>?_) fun h=>?_ | refine qB (fun h=>?_) fun h=>?_ | refine qC (fun h=>?_) fun h=>?_ | refine qD (fun h=>?_) fun h=>?_ | refine qE (fun h=>?_) fun h=>?_) -- r8
  ·skip
   (with_reducible repeat (first | refine sA ?_ | refine sB ?_ | refine sC ?_ | refine sD ?_ | refine sE ?_ | refine sF ?_))
   first | refine ag (hR.expr _) (fun _ h=>nomatch h) fun r9 nr9=>?_ | refine af (hR.expr _) (fun _ h=>nomatch h) fun r9 nr9=>?_
   (with_reducible repeat (first | refine sA ?_ | refine sB ?_ | refine sC ?_ | refine sD ?_ | refine sE ?_ | refine sF ?_))
   first | refine ag (aJ _ _) (fun _ h=>nomatch h) fun x b=>?_ | refine af (aJ _ _) (fun _ h=>nomatch h) fun x b=>?_
   refine ca [x3,r9] [n,nr9] rfl (by decide) (by decide) (by kernel_rfl) (fun F hF=>(.cons _ _ _ _ (hF (NodeF n x3) (by repeat (first | exact mz | apply ms))) (.cons _ _ _ _ (hF (NodeF nr9 r9) (by repeat (first | exact mz | apply ms))) .nil))) fun r12=>?_
   (first | refine mn _ rfl (by repeat (first | exact mz | apply ms)) | refine mt _ (by decide) rfl (by repeat (first | exact mz | apply ms)))
  ·skip
   (with_reducible repeat (first | refine sA ?_ | refine sB ?_ | refine sC ?_ | refine sD ?_ | refine sE ?_ | refine sF ?_))
   first | refine ag (cr _ _) (fun _ h=>nomatch h) fun r13 b=>Sim.prop fun h=>?_ | refine af (cr _ _) (fun _ h=>nomatch h) fun r13 b=>Sim.prop fun h=>?_
   subst h
   first | refine dg ?_ fun x16=>?_ | refine dU ?_ fun x16=>?_
   ·skip
    (with_reducible repeat (first | refine sA ?_ | refine sB ?_ | refine sC ?_ | refine sD ?_ | refine sE ?_ | refine sF ?_))
    (first | refine qA (fun h=>?_) fun h=>?_ | refine qB (fun h=>?_) fun h=>?_ | refine qC (fun h=>?_) fun h=>?_ | refine qD (fun h=>?_) fun h=>?_ | refine qE (fun h=>?_) fun h=>?_) -- r13
    ·skip
     exact ba _ rfl (by first | rfl | (simp only [Tok.kind] at *; simp_all))
    ·skip
     (with_reducible repeat (first | refine sA ?_ | refine sB ?_ | refine sC ?_ | refine sD ?_ | refine sE ?_ | refine sF ?_))
     first | refine ag (cr _ _) (fun _ h=>nomatch h) fun r14 b=>Sim.prop fun h=>?_ | refine af (cr _ _) (fun _ h=>nomatch h) fun r14 b=>Sim.prop fun h=>?_
     subst h
     (with_reducible repeat (first | refine sA ?_ | refine sB ?_ | refine sC ?_ | refine sD ?_ | refine sE ?_ | refine sF ?_))
     (first | refine qA (fun h=>?_) fun h=>?_ | refine qB (fun h=>?_) fun h=>?_ | refine qC (fun h=>?_) fun h=>?_ | refine qD (fun h=>?_) fun h=>?_ | refine qE (fun h=>?_) fun h=>?_) -- r14
     ·skip
      (with_reducible repeat (first | refine sA ?_ | refine sB ?_ | refine sC ?_ | refine sD ?_ | refine sE ?_ | refine sF ?_))
      first | refine ag (Es hR _) (fun _ h=>nomatch h) fun r15 b=>Sim.prop fun h=>?_ | refine af (Es hR _) (fun _ h=>nomatch h) fun r15 b=>Sim.prop fun h=>?_
      subst h
      exact ba _ rfl (by first | rfl | (simp only [Tok.kind] at *; simp_all))
     ·skip
      exact ba _ rfl (by first | rfl | (simp only [Tok.kind] at *; simp_all))
   ·skip
    (with_reducible repeat (first | refine sA ?_ | refine sB ?_ | refine sC ?_ | refine sD ?_ | refine sE ?_ | refine sF ?_))
    (first | refine qA (fun h=>?_) fun h=>?_ | refine qB (fun h=>?_) fun h=>?_ | refine qC (fun h=>?_) fun h=>?_ | refine qD (fun h=>?_) fun h=>?_ | refine qE (fun h=>?_) fun h=>?_) -- x16.1
    ·skip
     (with_reducible repeat (first | refine sA ?_ | refine sB ?_ | refine sC ?_ | refine sD ?_ | refine sE ?_ | refine sF ?_))
     first | refine ag (mm hR _) (fun _ h=>nomatch h) fun r17 nr17=>?_ | refine af (mm hR _) (fun _ h=>nomatch h) fun r17 nr17=>?_
     (with_reducible repeat (first | refine sA ?_ | refine sB ?_ | refine sC ?_ | refine sD ?_ | refine sE ?_ | refine sF ?_))
     first | refine ag (nW hR _) (fun _ h=>nomatch h) fun r18 nr18=>?_ | refine af (nW hR _) (fun _ h=>nomatch h) fun r18 nr18=>?_
     refine ca [x3,r17,r18] [n,nr17,nr18] rfl (by decide) (by decide) (by kernel_rfl) (fun F hF=>(.cons _ _ _ _ (hF (NodeF n x3) (by repeat (first | exact mz | apply ms))) (.cons _ _ _ _ (hF (NodeF nr17 r17) (by repeat (first | exact mz | apply ms))) (.cons _ _ _ _ (hF (NodeF nr18 r18) (by repeat (first | exact mz | apply ms))) .nil)))) fun r20=>?_
     (first | refine mn _ rfl (by repeat (first | exact mz | apply ms)) | refine mt _ (by decide) rfl (by repeat (first | exact mz | apply ms)))
    ·skip
     (with_reducible repeat (first | refine sA ?_ | refine sB ?_ | refine sC ?_ | refine sD ?_ | refine sE ?_ | refine sF ?_))
     first | refine ag (az _ _) (fun _ h=>nomatch h) fun r21 b=>Sim.prop fun h=>?_ | refine af (az _ _) (fun _ h=>nomatch h) fun r21 b=>Sim.prop fun h=>?_
     subst h
     (with_reducible repeat (first | refine sA ?_ | refine sB ?_ | refine sC ?_ | refine sD ?_ | refine sE ?_ | refine sF ?_))
     (first | refine qA (fun h=>?_) fun h=>?_ | refine qB (fun h=>?_) fun h=>?_ | refine qC (fun h=>?_) fun h=>?_ | refine qD (fun h=>?_) fun h=>?_ | refine qE (fun h=>?_) fun h=>?_) -- r21
     ·skip
      refine ca [x3] [n] rfl (by decide) (by decide) (by kernel_rfl) (fun F hF=>(.cons _ _ _ _ (hF (NodeF n x3) (by repeat (first | exact mz | apply ms))) .nil)) fun r23=>?_
      (first | refine mn _ rfl (by repeat (first | exact mz | apply ms)) | refine mt _ (by decide) rfl (by repeat (first | exact mz | apply ms)))
     ·skip
      (with_reducible repeat (first | refine sA ?_ | refine sB ?_ | refine sC ?_ | refine sD ?_ | refine sE ?_ | refine sF ?_))
      exact av (t:=tP) _ rfl (fun F hF=>hF _ (by repeat (first | exact mz | apply ms)))
theorem DC {R:a6} (hR:cJ R) (pb:Nat):Meets PG (PI pb) (aa ga #[.pointer (some (aR pb))]) tP (ol R) NodeF []:=by
 refine ye (aR pb) ?_
 unfold lR ol
 (with_reducible repeat (first | refine sA ?_ | refine sB ?_ | refine sC ?_ | refine sD ?_ | refine sE ?_ | refine sF ?_))
 first | refine ag (bk _) (fun _ h=>nomatch h) fun r1 b=>Sim.prop fun h=>?_ | refine af (bk _) (fun _ h=>nomatch h) fun r1 b=>Sim.prop fun h=>?_
 subst h
 refine gB (c:=true) (z:=[.int .i64 0,.string kE,.int .i64 0,.int .i64 0]) (by kernel_rfl) (by kernel_rfl) rfl (by simp [Value.cells,Value.oneCell']) fun br2=>?_
 (with_reducible repeat (first | refine sA ?_ | refine sB ?_ | refine sC ?_ | refine sD ?_ | refine sE ?_ | refine sF ?_))
 first | refine ag (az _ _) (fun _ h=>nomatch h) fun r4 b=>Sim.prop fun h=>?_ | refine af (az _ _) (fun _ h=>nomatch h) fun r4 b=>Sim.prop fun h=>?_
 subst h
 first | refine dg ?_ fun x8=>?_ | refine dU ?_ fun x8=>?_
 ·skip
  (with_reducible repeat (first | refine sA ?_ | refine sB ?_ | refine sC ?_ | refine sD ?_ | refine sE ?_ | refine sF ?_))
  (first | refine qA (fun h=>?_) fun h=>?_ | refine qB (fun h=>?_) fun h=>?_ | refine qC (fun h=>?_) fun h=>?_ | refine qD (fun h=>?_) fun h=>?_ | refine qE (fun h=>?_) fun h=>?_) -- r4
  ·skip
   exact ba _ rfl (by first | rfl | (simp only [Tok.kind] at *; simp_all))
  ·skip
   (with_reducible repeat (first | refine sA ?_ | refine sB ?_ | refine sC ?_ | refine sD ?_ | refine sE ?_ | refine sF ?_))
   first | refine ag (az _ _) (fun _ h=>nomatch h) fun r5 b=>Sim.prop fun h=>?_ | refine af (az _ _) (fun _ h=>nomatch h) fun r5 b=>Sim.prop fun h=>?_
   subst h
   (with_reducible repeat (first | refine sA ?_ | refine sB ?_ | refine sC ?_ | refine sD ?_ | refine sE ?_ | refine sF ?_))
   (first | refine qA (fun h=>?_) fun h=>?_ | refine qB (fun h=>?_) fun h=>?_ | refine qC (fun h=>?_) fun h=>?_ | refine qD (fun h=>?_) fun h=>?_ | refine qE (fun h=>?_) fun h=>?_) -- r5
   ·skip
    exact ba _ rfl (by first | rfl | (simp only [Tok.kind] at *; simp_all))
   ·skip
    (with_reducible repeat (first | refine sA ?_ | refine sB ?_ | refine sC ?_ | refine sD ?_ | refine sE ?_ | refine sF ?_))
    first | refine ag (az _ _) (fun _ h=>nomatch h) fun r6 b=>Sim.prop fun h=>?_ | refine af (az _ _) (fun _ h=>nomatch h) fun r6 b=>Sim.prop fun h=>?_
    subst h
    (with_reducible repeat (first | refine sA ?_ | refine sB ?_ | refine sC ?_ | refine sD ?_ | refine sE ?_ | refine sF ?_))
    (first | refine qA (fun h=>?_) fun h=>?_ | refine qB (fun h=>?_) fun h=>?_ | refine qC (fun h=>?_) fun h=>?_ | refine qD (fun h=>?_) fun h=>?_ | refine qE (fun h=>?_) fun h=>?_) -- r6
    ·skip
     exact ba _ rfl (by first | rfl | (simp only [Tok.kind] at *; simp_all))
    ·skip
     (with_reducible repeat (first | refine sA ?_ | refine sB ?_ | refine sC ?_ | refine sD ?_ | refine sE ?_ | refine sF ?_))
     first | refine ag (az _ _) (fun _ h=>nomatch h) fun r7 b=>Sim.prop fun h=>?_ | refine af (az _ _) (fun _ h=>nomatch h) fun r7 b=>Sim.prop fun h=>?_
     subst h
     exact ba _ rfl (by first | rfl | (simp only [Tok.kind] at *; simp_all))
 ·skip
  (with_reducible repeat (first | refine sA ?_ | refine sB ?_ | refine sC ?_ | refine sD ?_ | refine sE ?_ | refine sF ?_))
  (first | refine qA (fun h=>?_) fun h=>?_ | refine qB (fun h=>?_) fun h=>?_ | refine qC (fun h=>?_) fun h=>?_ | refine qD (fun h=>?_) fun h=>?_ | refine qE (fun h=>?_) fun h=>?_) -- x8.1
  ·skip
   refine dD [] (fun _ h=>nomatch h) ?_
   refine df (b1:=.str) _ (by repeat (first | exact mz | apply ms)) (by kernel_rfl) rfl rfl ?_
   refine df (b1:=.int .i64) _ (by repeat (first | exact mz | apply ms)) (by kernel_rfl) rfl rfl ?_
   (with_reducible repeat (first | refine sA ?_ | refine sB ?_ | refine sC ?_ | refine sD ?_ | refine sE ?_ | refine sF ?_))
   first | refine ef (hR.unary _) (fun _ h=>nomatch h) fun r11 nr11=>?_ | refine iN (hR.unary _) (fun _ h=>nomatch h) fun r11 nr11=>?_
   refine e9 [r11] [nr11] rfl (by decide) (by decide) (by kernel_rfl) (fun F hF=>(.cons _ _ _ _ (hF (NodeF nr11 r11) (by repeat (first | exact mz | apply ms))) .nil)) (fun p hp=>by first | exact absurd hp List.not_mem_nil | (simp at hp; simp [hp])) fun r13=>?_
   (with_reducible repeat (first | refine sA ?_ | refine sB ?_ | refine sC ?_ | refine sD ?_ | refine sE ?_ | refine sF ?_))
   exact av (t:=tP) _ rfl (fun F hF=>hF _ (by repeat (first | exact mz | apply ms)))
  ·skip
   (with_reducible repeat (first | refine sA ?_ | refine sB ?_ | refine sC ?_ | refine sD ?_ | refine sE ?_ | refine sF ?_))
   first | refine ag (zP hR _) (fun _ h=>nomatch h) fun r14 nr14=>?_ | refine af (zP hR _) (fun _ h=>nomatch h) fun r14 nr14=>?_
   (with_reducible repeat (first | refine sA ?_ | refine sB ?_ | refine sC ?_ | refine sD ?_ | refine sE ?_ | refine sF ?_))
   exact av (t:=tP) _ rfl (fun F hF=>hF _ (by repeat (first | exact mz | apply ms)))
end Go.Proofs.YtjlgcpgjdgeejaaGreatDoor
end

section
namespace Go.Proofs.YtjlgcpgjdgeejaaGreatDoor
open Go
set_option linter.unusedSimpArgs false
set_option linter.unusedVariables false
set_option linter.constructorNameAsVariable false
set_option maxRecDepth 100000
theorem G4 {α:Type} (g:α→Value) (l:List α):rows (fun x=>[g x]) l=l.map g:=by
 induction l with
 | nil=>rfl
 | cons x l ih=>rw [fF,ih]; rfl
theorem zj {P:Program} {t e:TypeId} {n:Nat} (ht:oG P t=some (e,n)) (x:aV) (w:World):(cU .eql t (.slice x.1 x.2.1 x.2.2) (.slice none 0 0)).run P w=.ok (.value (.bool x.1.isNone)) w:=by
 obtain ⟨a,l,c⟩:=x
 have hu:=(rA ht).1
 have h:∀ a,(Op.equal t (.slice a l c) (.slice none 0 0)).run P w=.ok a.isNone w:=fun a=>by
  unfold Op.equal
  rw [show Op.maxDepth=9999+1 from rfl,Op.equalIn]
  rw [Sem.run_bind,run_underlying hu,Result.andThen_ok]
  cases a<;>rfl
 simp [cU,cG,eqGuard,binOp,h]
theorem Hj {α:Type} {t e:TypeId} {n:Nat} {ps:Array (Nat × Value)} {z:Value} (g:α→Value) (l:List α) (ht:oG PG t=some (e,1)) (hz:(PG.info? e).bind (·.zero)=some z) (hn:l.length=n) (h0:0 < n) (hsz:n≤1000)
  (hf:Instr.fill (fun i=>some (i * 1,1)) ((Array.range (n * 1)).map (z.cells[· % z.cells.size]!)) ps.toList=some (l.map g).toArray) (w:World) :
  (aG t n ps).run PG w=.ok (.value (.slice (some ⟨w.heap.size,0,none⟩) n n)) (w.alloc (ap e (l.map g))):=by
 have:=k5 (P:=PG) (w:=w) (t:=t) (e:=e) (n:=n) (size:=1) (ps:=ps) (cells:=(l.map g).toArray) (zero:=z) ht (by omega) hz hf (by omega)
 simpa using this
theorem HG {α:Type} {L:ak} {Γ:List Fact} {t e:TypeId} {n:Nat} {ps:Array (Nat × Value)} {z:Value} (g:α→Value) (l:List α) (ht:oG PG t=some (e,1)) (hz:(PG.info? e).bind (·.zero)=some z) (hn:l.length=n) (h0:0 < n) (hsz:n≤1000)
  (hf:Instr.fill (fun i=>some (i * 1,1)) ((Array.range (n * 1)).map (z.cells[· % z.cells.size]!)) ps.toList=some (l.map g).toArray) :
  Loc PG (aG t n ps) ai L Γ fun y L' Γ'=>L'=L∧(∃ b,y.1=some ⟨b,0,none⟩)∧Γ'=Sl 1 (fun x=>[g x]) y l::Γ :=
 Loc.val fun r w F H hF hsp=>⟨(some ⟨w.heap.size,0,none⟩,n,n),_,L,_,F.ins w.heap.size (ap e (l.map g)),.inl (Hj g l ht hz hn h0 hsz hf w),hsp.new_le _,
  Holds.cons (A:=Sl 1 (fun x=>[g x]) (some ⟨w.heap.size,0,none⟩,n,n) l) ⟨hn.symm,.inr ⟨⟨w.heap.size,0,none⟩,l.map g,e,rfl,rfl,by simp [Heap.ins],by
   rw [G4]; show List.take (1 * l.length) (l.map g)=_; rw [List.take_of_length_le (by simp)]⟩⟩ (hF.mono (hsp.new_le _)),hsp.newF _,rfl,⟨w.heap.size,rfl⟩,rfl⟩
theorem fm {ε σ β α:Type} {I:aN ε σ} {t1:Ty} {Rel:β→t1.den→ak→Fact} {Δ:Labels ε σ β} {q:Option Quiet} {L:ak} {Γ:List Fact} {s:Sp ε σ β} {t e:TypeId} {n:Nat} {ps:Array (Nat × Value)} {z:Value} {k:aV→T} (g:α→Value) (l:List α)
  (ht:oG PG t=some (e,1)) (hz:(PG.info? e).bind (·.zero)=some z) (hn:l.length=n) (h0:0 < n) (hsz:n≤1000)
  (hf:Instr.fill (fun i=>some (i * 1,1)) ((Array.range (n * 1)).map (z.cells[· % z.cells.size]!)) ps.toList=some (l.map g).toArray)
  (hk:∀ y b,y.1=some ⟨b,0,none⟩→Sim PG I t1 Rel Δ none (k y) s L (Sl 1 (fun x=>[g x]) y l::Γ)):Sim PG I t1 Rel Δ q (.op (aG t n ps) ai k) s L Γ:=by
 refine aW (HG g l ht hz hn h0 hsz hf) ?_
 rintro x _ _ ⟨rfl,⟨b,hb⟩,rfl⟩
 exact hk x b hb
abbrev d6 (l:List ByteArray) (x:aV):Fact:=Sl 1 (fun s:ByteArray=>[Value.string s]) x l
def FF (l:List ByteArray) (x:aV):Fact:=(Fact.prop (x.1.isNone=l.isEmpty)).both (d6 l x)
theorem DF {ε σ:Type} (I:aN ε σ) (n:Nat) (hn:n≤10):Meets PG I (aa ls #[.int .i64 n]) ai (Pure.pure (iu n)) FF []:=by
 refine ym n ?_
 unfold lz
 refine fm (z:=.string kE) (e:=aK) Value.string [mp] (by kernel_rfl) (by kernel_rfl) rfl (by decide) (by decide) (by kernel_rfl) fun r1 b1 h1=>?_
 refine fm (z:=.string kE) (e:=aK) Value.string [mo] (by kernel_rfl) (by kernel_rfl) rfl (by decide) (by decide) (by kernel_rfl) fun r2 b2 h2=>?_
 refine fm (z:=.string kE) (e:=aK) Value.string [hZ] (by kernel_rfl) (by kernel_rfl) rfl (by decide) (by decide) (by kernel_rfl) fun r3 b3 h3=>?_
 refine fm (z:=.string kE) (e:=aK) Value.string [pY] (by kernel_rfl) (by kernel_rfl) rfl (by decide) (by decide) (by kernel_rfl) fun r4 b4 h4=>?_
 refine fm (z:=.string kE) (e:=aK) Value.string [u6] (by kernel_rfl) (by kernel_rfl) rfl (by decide) (by decide) (by kernel_rfl) fun r5 b5 h5=>?_
 refine fm (z:=.string kE) (e:=aK) Value.string [kV,iM] (by kernel_rfl) (by kernel_rfl) rfl (by decide) (by decide) (by kernel_rfl) fun r6 b6 h6=>?_
 refine fm (z:=.string kE) (e:=aK) Value.string [jU,p7,uI,qf,GS,kas] (by kernel_rfl) (by kernel_rfl) rfl (by decide) (by decide) (by kernel_rfl) fun r7 b7 h7=>?_
 refine fm (z:=.string kE) (e:=aK) Value.string [qg,qo,kD] (by kernel_rfl) (by kernel_rfl) rfl (by decide) (by decide) (by kernel_rfl) fun r8 b8 h8=>?_
 refine fm (z:=.string kE) (e:=aK) Value.string [sa,g9] (by kernel_rfl) (by kernel_rfl) rfl (by decide) (by decide) (by kernel_rfl) fun r9 b9 h9=>?_
 refine fm (z:=.string kE) (e:=aK) Value.string [su,vT] (by kernel_rfl) (by kernel_rfl) rfl (by decide) (by decide) (by kernel_rfl) fun r10 b10 h10=>?_
 refine fm (z:=.slice none 0 0) (e:=dn) (fun x:aV=>Value.slice x.1 x.2.1 x.2.2) [r1,r2,r3,r4,r5,r6,r7,r8,r9,r10] (by kernel_rfl) (by kernel_rfl) rfl (by decide) (by decide) (by kernel_rfl) fun r11 b11 h11=>?_
 refine Sim.note (φ:=r11.2.1=10) (fun F hF=>(hF (Sl 1 (fun x:aV=>[Value.slice x.1 x.2.1 x.2.2]) r11 [r1,r2,r3,r4,r5,r6,r7,r8,r9,r10]) (by repeat (first | exact mz | apply ms))).1) fun hl=>?_
 refine qE (fun h=>?_) (fun h=>?_)
 ·have:n=10:=by simp [hl] at h; omega
  subst this
  exact av (t:=ai) (none,0,0) rfl (fun F hF=>⟨rfl,rfl,.inl rfl⟩)
 ·have hlt:n < 10:=by simp [hl] at h; omega
  have main:∀ (y:aV) (b:Nat) (ss:List ByteArray),[r1,r2,r3,r4,r5,r6,r7,r8,r9,r10][n]? = some y→y.1=some ⟨b,0,none⟩→ss.isEmpty=false→iu n=ss →
    d6 ss y∈[Sl 1 (fun x:aV=>[Value.slice x.1 x.2.1 x.2.2]) r11 [r1,r2,r3,r4,r5,r6,r7,r8,r9,r10],d6 [su,vT] r10,d6 [sa,g9] r9,d6 [qg,qo,kD] r8,d6 [jU,p7,uI,qf,GS,kas] r7,
     d6 [kV,iM] r6,d6 [u6] r5,d6 [pY] r4,d6 [hZ] r3,d6 [mo] r2,d6 [mp] r1] →
    Sim PG I ai (pl FF) noLabel none (.op (bQ qW (.slice r11.1 r11.2.1 r11.2.2) (.int .i64 n)) tA fun r12=>.op (am dn (.pointer (some r12))) ai fun r13=>.ret #[.v (.slice r13.1 r13.2.1 r13.2.2)]) (Pure.pure (iu n)) []
     [Sl 1 (fun x:aV=>[Value.slice x.1 x.2.1 x.2.2]) r11 [r1,r2,r3,r4,r5,r6,r7,r8,r9,r10],d6 [su,vT] r10,d6 [sa,g9] r9,d6 [qg,qo,kD] r8,d6 [jU,p7,uI,qf,GS,kas] r7,
     d6 [kV,iM] r6,d6 [u6] r5,d6 [pY] r4,d6 [hZ] r3,d6 [mo] r2,d6 [mp] r1]:=by
   intro y b ss hy hb hss hs hm
   refine aW (p3 (f:=fun x:aV=>[Value.slice x.1 x.2.1 x.2.2]) (l:=[r1,r2,r3,r4,r5,r6,r7,r8,r9,r10]) h11 (fun F hF=>hF _ (List.mem_cons_self ..)) (by kernel_rfl) n rfl (by simpa using hlt)) ?_
   rintro _ _ _ ⟨rfl,rfl,rfl⟩
   refine aW (rI (f:=fun x:aV=>[Value.slice x.1 x.2.1 x.2.2]) (b:=.slice) (fun _=>rfl) h11 (fun F hF=>hF _ (List.mem_cons_self ..)) hy (by kernel_rfl) y rfl) ?_
   rintro _ _ _ ⟨rfl,rfl,rfl⟩
   rw [hs]
   exact av (t:=ai) y rfl (fun F hF=>⟨by rw [hb,hss]; rfl,hF _ hm⟩)
  have h:n=0∨n=1∨n=2∨n=3∨n=4∨n=5∨n=6∨n=7∨n=8∨n=9:=by omega
  rcases h with rfl | rfl | rfl | rfl | rfl | rfl | rfl | rfl | rfl | rfl
  ·exact main r1 b1 _ rfl h1 rfl rfl (by repeat (first | exact mz | apply ms))
  ·exact main r2 b2 _ rfl h2 rfl rfl (by repeat (first | exact mz | apply ms))
  ·exact main r3 b3 _ rfl h3 rfl rfl (by repeat (first | exact mz | apply ms))
  ·exact main r4 b4 _ rfl h4 rfl rfl (by repeat (first | exact mz | apply ms))
  ·exact main r5 b5 _ rfl h5 rfl rfl (by repeat (first | exact mz | apply ms))
  ·exact main r6 b6 _ rfl h6 rfl rfl (by repeat (first | exact mz | apply ms))
  ·exact main r7 b7 _ rfl h7 rfl rfl (by repeat (first | exact mz | apply ms))
  ·exact main r8 b8 _ rfl h8 rfl rfl (by repeat (first | exact mz | apply ms))
  ·exact main r9 b9 _ rfl h9 rfl rfl (by repeat (first | exact mz | apply ms))
  ·exact main r10 b10 _ rfl h10 rfl rfl (by repeat (first | exact mz | apply ms))
def Gb (pb:Nat) (n:Int) (sl:aV) (pos:Int) (p:Option Addr):T :=
 .loop 1 [.b .ptr,.b (.int .i64)] [.pointer p,.int .i64 0] fun x6 =>
    .ite (decide ((x6.2.1:Int) < (sl.2.1:Int))) (
     .op (bQ dn (.slice sl.1 sl.2.1 sl.2.2) (.int .i64 x6.2.1)) tA fun r7 =>
     .op (am aK (.pointer (some r7))) tS fun r8 =>
     .op (aa au #[.pointer (some (aR pb)),.string r8]) tB fun r9 =>
     .ite (!r9) (
      .out 1 [.pointer x6.1,.int .i64 (IntKind.i64.wrap (x6.2.1+1))]) (
      .ite (r8.toList==kas.toList) (
       .op (aa cI #[.pointer (some (aR pb))]) tP fun r10 =>
       .op (aG ae 2 #[(0,.pointer x6.1),(1,.pointer r10)]) ai fun r11 =>
       .op (aa al #[.int .i64 33,.string kE,.int .i64 0,.int .i64 pos,.slice r11.1 r11.2.1 r11.2.2]) tP fun r12 =>
       .out 0 [.slice sl.1 sl.2.1 sl.2.2,.int .i64 pos,.pointer r12]) (
       .op (aa dM #[.pointer (some (aR pb)),.int .i64 (IntKind.i64.wrap (n+1))]) tP fun r13 =>
       .op (aG ae 2 #[(0,.pointer x6.1),(1,.pointer r13)]) ai fun r14 =>
       .op (aa al #[.int .i64 24,.string r8,.int .i64 0,.int .i64 pos,.slice r14.1 r14.2.1 r14.2.2]) tP fun r15 =>
       .out 0 [.slice sl.1 sl.2.1 sl.2.2,.int .i64 pos,.pointer r15]))) (
     .ret #[.v (.pointer x6.1)])
def Fc (R:a6) (ss:List ByteArray) (below:PM N):Label Int PSt N :=
 {ι:=Nat × Int × N,sp:=fun j=>f6 R ss j.2.1 below j.1 j.2.2,
  J:=fun j vs L'=>Fact.ex fun p:Option Addr=>Fact.ex fun sl:aV=>(Fact.prop (vs=[.slice sl.1 sl.2.1 sl.2.2,.int .i64 j.2.1,.pointer p]∧L'=[])).both ((d6 ss sl).both (NodeF j.2.2 p)) }
def Fj (R:a6) (ss:List ByteArray) (below:PM N) (k:Nat):Label Int PSt N :=
 {ι:={ j:Nat × Int × N // j.1 < k },sp:=fun j=>(Fc R ss below).sp j.1,J:=fun j vs L'=>(Fc R ss below).J j.1 vs L' }
def oN (R:a6) (ss:List ByteArray) (pos:Int) (below:PM N) (k:Nat) (x:N) (o:Option ByteArray):PM N:=match o with
  | none=>pure x
  | some s=>cond (s.toList==kas.toList) (do let y ← R.typed; f6 R ss pos below k (aE 33 kE 0 pos [x,y])) (do let y ← below; f6 R ss pos below k (aE 24 s 0 pos [x,y]))
theorem Gz (R:a6) (ss:List ByteArray) (pos:Int) (below:PM N) (k:Nat) (x:N):f6 R ss pos below (k+1) x=jz ss>>=oN R ss pos below k x:=rfl
theorem zz {R:a6} (hR:cJ R) (pb:Nat) (n:Int) (ss:List ByteArray) (hss:ss.length≤10) (pos:Int) (below:PM N) (hb:Meets PG (PI pb) (aa dM #[.pointer (some (aR pb)),.int .i64 (IntKind.i64.wrap (n+1))]) tP below NodeF [])
  {Δ:Labels Int PSt N} {q:Option Quiet} {Γ:List Fact} (k:Nat) (x:N) (p:Option Addr) (sl:aV) (hsl:d6 ss sl∈Γ) (hx:NodeF x p∈Γ) (h0:Δ 0=Fj R ss below (k+1)) :
  Sim PG (PI pb) tP (pl NodeF) Δ q (Gb pb n sl pos p) (f6 R ss pos below (k+1) x) [] Γ:=by
 rw [Gz]
 unfold Gb
 refine gH (x:={ ι:={ j:Nat // j≤ss.length },sp:=fun j=>jz (ss.drop j.1)>>=oN R ss pos below k x,J:=fun j vs L'=>Fact.prop (vs=[.pointer p,.int .i64 j.1]∧L'=[]) }) (fun j=>ss.length - j.1) ⟨0,Nat.zero_le _⟩ rfl (fun F hF=>⟨rfl,rfl⟩) ?_ ?_
 ·rintro ⟨j,hj⟩ vs L' F ⟨rfl,_⟩; exact ⟨(p,(j:Int),()),rfl⟩
 ·rintro ⟨j,hj⟩ L' ⟨p',j',⟨⟩⟩
  refine Sim.prop fun ⟨hv,hL⟩=>?_
  subst hL
  have h1:=(List.cons.inj hv).1
  have h2:=(List.cons.inj (List.cons.inj hv).2).1
  obtain rfl:p'=p:=by cases h1; rfl
  obtain rfl:j'=(j:Int):=by cases h2; rfl
  refine Sim.note (φ:=sl.2.1=ss.length) (fun F hF=>(hF _ hsl).1) fun hl=>?_
  refine qE (fun h=>?_) (fun h=>?_)
  ·have hlt:j < ss.length:=by simp [hl] at h; omega
   refine Sim.note (φ:=∃ a,sl.1=some a∧a.spot=none) (fun F hF=>Sl.addr (hF _ hsl) (by omega)) fun ⟨a,ha,_⟩=>?_
   have hd:ss.drop j=ss.getD j kE::ss.drop (j+1):=by
    rw [List.drop_eq_getElem_cons hlt]; simp [hlt]
   refine aW (p3 ha (fun F hF=>hF _ hsl) (by kernel_rfl) j rfl hlt) ?_
   rintro _ _ _ ⟨rfl,rfl,rfl⟩
   refine aW (rI (b:=.str) (fun _=>rfl) ha (fun F hF=>hF _ hsl) (getD_some (d:=kE) hlt) (by kernel_rfl) (ss.getD j kE) rfl) ?_
   rintro _ _ _ ⟨rfl,rfl,rfl⟩
   show Sim PG (PI pb) tP (pl NodeF) _ none _ (jz (ss.drop j)>>=oN R ss pos below k x) [] _
   rw [hd]
   show Sim PG (PI pb) tP (pl NodeF) _ none _ ((aX (ss.getD j kE)>>=fun b=>cond b (pure (some (ss.getD j kE))) (jz (ss.drop (j+1))))>>=oN R ss pos below k x) [] _
   refine sA (ag (az _ _) (fun _ h=>nomatch h) fun r9 b=>Sim.prop fun h=>?_)
   subst h
   refine qD (fun h=>?_) (fun h=>?_)
   ·refine cQ rfl ⟨⟨j+1,hlt⟩,?_⟩ rfl fun F hF=>⟨?_,rfl⟩
    ·show ss.length - (j+1) < ss.length - j; omega
    ·show [Value.pointer p',.int .i64 (IntKind.i64.wrap ((j:Int)+1))]=[.pointer p',.int .i64 ((j+1:Nat):Int)]
     rw [bg (by omega) (by omega)]; simp
   ·show Sim PG (PI pb) tP (pl NodeF) _ none _ (oN R ss pos below k x (some (ss.getD j kE))) [] _
    unfold oN
    refine qA (fun h=>?_) (fun h=>?_)
    ·refine ag (hR.typed _) (fun _ h=>nomatch h) fun r10 n10=>?_
     refine ca [p',r10] [x,n10] rfl (by decide) (by decide) (by kernel_rfl) (fun F hF=>.cons _ _ _ _ (hF (NodeF x p') (List.mem_cons_of_mem _ hx)) (.cons _ _ _ _ (hF (NodeF n10 r10) (by repeat (first | exact mz | apply ms))) .nil)) fun r12=>?_
     refine cQ (x:=Fj R ss below (k+1)) (by simp [Labels.set,h0]) ⟨(k,pos,aE 33 kE 0 pos [x,n10]),Nat.lt_succ_self k⟩ rfl fun F hF=>⟨r12,sl,⟨rfl,rfl⟩,hF _ (List.mem_cons_of_mem _ (List.mem_cons_of_mem _ hsl)),hF _ (List.mem_cons_self ..)⟩
    ·refine ag hb (fun _ h=>nomatch h) fun r13 n13=>?_
     refine ca [p',r13] [x,n13] rfl (by decide) (by decide) (by kernel_rfl) (fun F hF=>.cons _ _ _ _ (hF (NodeF x p') (List.mem_cons_of_mem _ hx)) (.cons _ _ _ _ (hF (NodeF n13 r13) (by repeat (first | exact mz | apply ms))) .nil)) fun r15=>?_
     refine cQ (x:=Fj R ss below (k+1)) (by simp [Labels.set,h0]) ⟨(k,pos,aE 24 (ss.getD j kE) 0 pos [x,n13]),Nat.lt_succ_self k⟩ rfl fun F hF=>⟨r15,sl,⟨rfl,rfl⟩,hF _ (List.mem_cons_of_mem _ (List.mem_cons_of_mem _ hsl)),hF _ (List.mem_cons_self ..)⟩
  ·have hge:ss.length≤j:=by simp [hl] at h; omega
   refine Sim.spec (s':=pure x) ?_ (av (t:=tP) p' rfl (fun F hF=>hF _ hx))
   show (jz (ss.drop j)>>=oN R ss pos below k x)=_
   rw [List.drop_eq_nil_of_le hge]; rfl
theorem wz (n:Nat):(iu n).length≤10:=by unfold iu; split<;>simp
theorem I7 {R:a6} (hR:cJ R) (pb:Nat):∀ m,m≤10→Meets PG (PI pb) (aa dM #[.pointer (some (aR pb)),.int .i64 ((10 - m:Nat):Int)]) tP (gV R m) NodeF []:=by
 intro m
 induction m with
 | zero =>
  intro _
  refine qq (aR pb) 10 ?_
  unfold i8
  refine eu (x:={ ι:=Empty,sp:=fun i=>i.elim,J:=fun i=>i.elim }) ?_ fun i=>i.elim
  refine lI (DF _ 10 (Nat.le_refl _)) (fun _ h=>nomatch h) fun r1=>Sim.both (Sim.prop fun h1=>?_)
  refine aW (eG (t1:=tB) r1.1.isNone fun w=>zj (e:=aK) (n:=1) (by kernel_rfl) r1 w) ?_
  rintro _ _ _ ⟨rfl,rfl,rfl⟩
  refine qE (fun h=>?_) (fun h=>?_)
  ·refine af (DC hR _) (fun _ h=>nomatch h) fun r3 n3=>?_
   exact av (t:=tP) _ rfl (fun F hF=>hF _ (by repeat (first | exact mz | apply ms)))
  ·rw [h1] at h; cases h
 | succ m ih =>
  intro hm
  have hn:10 - (m+1)=9 - m:=by omega
  rw [hn]
  have hb:Meets PG (PI pb) (aa dM #[.pointer (some (aR pb)),.int .i64 (IntKind.i64.wrap (((9 - m:Nat):Int)+1))]) tP (gV R m) NodeF []:=by
   have h:=ih (by omega)
   rw [bg (by omega) (by omega),show ((9 - m:Nat):Int)+1=((10 - m:Nat):Int) by omega]
   exact h
  have hss:(iu (9 - m)).isEmpty=false:=by
   have h:m=0∨m=1∨m=2∨m=3∨m=4∨m=5∨m=6∨m=7∨m=8∨m=9:=by omega
   rcases h with rfl | rfl | rfl | rfl | rfl | rfl | rfl | rfl | rfl | rfl<;>rfl
  refine qq (aR pb) ((9 - m:Nat):Int) ?_
  unfold i8
  refine eu (x:=Fj R (iu (9 - m)) (gV R m) R.fuel) ?_ fun i vs L'=>⟨?_,fun y=>?_⟩
  ·refine lI (DF _ (9 - m) (by omega)) (fun _ h=>nomatch h) fun r1=>Sim.both (Sim.prop fun h1=>?_)
   refine aW (eG (t1:=tB) r1.1.isNone fun w=>zj (e:=aK) (n:=1) (by kernel_rfl) r1 w) ?_
   rintro _ _ _ ⟨rfl,rfl,rfl⟩
   refine qE (fun h=>?_) (fun h=>?_)
   ·rw [h1,hss] at h; cases h
   ·show Sim PG (PI pb) tP (pl NodeF) _ none _ (cj>>=fun t=>gV R m>>=fun x=>f6 R (iu (9 - m)) t.pos (gV R m) R.fuel x) [] _
    refine ag (bk _) (fun _ h=>nomatch h) fun r4 b=>Sim.prop fun h=>?_
    subst h
    refine ag hb (fun _ h=>nomatch h) fun r5 n5=>?_
    cases hf:R.fuel with
    | zero=>intro r w F H st res S hs; cases hs
    | succ k=>exact zz hR pb _ _ (wz _) _ _ hb k n5 r5 r1 (by repeat (first | exact mz | apply ms)) (by repeat (first | exact mz | apply ms)) rfl
  ·rintro F ⟨p,sl,⟨rfl,_⟩,_⟩; exact ⟨(sl,i.1.2.1,p,()),rfl⟩
  ·refine Sim.ex fun p=>Sim.ex fun sl=>Sim.both (Sim.prop fun ⟨hv,hL⟩=>?_)
   subst hL
   refine gH (x:=Fc R (iu (9 - m)) (gV R m)) (fun j=>j.1) i.1 rfl (fun F hF=>⟨p,sl,⟨hv,rfl⟩,hF _ (by repeat (first | exact mz | apply ms))⟩) ?_ ?_
   ·rintro j vs L' F ⟨p,sl,⟨rfl,_⟩,_⟩; exact ⟨(sl,j.2.1,p,()),rfl⟩
   ·rintro ⟨k,pos,x⟩ L' ⟨sl',pos',p',⟨⟩⟩
    refine Sim.ex fun p2=>Sim.ex fun sl2=>Sim.both (Sim.prop fun ⟨hv,hL⟩=>Sim.both ?_)
    subst hL
    have e1:=(List.cons.inj hv).1
    have e2:=(List.cons.inj (List.cons.inj hv).2).1
    have e3:=(List.cons.inj (List.cons.inj (List.cons.inj hv).2).2).1
    obtain rfl:pos'=pos:=by cases e2; rfl
    obtain rfl:p'=p2:=by cases e3; rfl
    obtain rfl:sl'=sl2:=by
     obtain ⟨a,b,c⟩:=sl'; obtain ⟨a2,b2,c2⟩:=sl2
     have e1':Value.slice a b c=Value.slice a2 b2 c2:=e1
     cases e1'; rfl
    cases k with
    | zero=>intro r w F H st res S hs; cases hs
    | succ k=>exact zz hR pb _ _ (wz _) _ _ hb k x p' sl' (by repeat (first | exact mz | apply ms)) (by repeat (first | exact mz | apply ms)) rfl
end Go.Proofs.YtjlgcpgjdgeejaaGreatDoor
end

section
namespace Go.Proofs.YtjlgcpgjdgeejaaGreatDoor
open Go
set_option linter.unusedSimpArgs false
set_option linter.unusedVariables false
set_option linter.constructorNameAsVariable false
set_option maxRecDepth 100000
theorem HD (pb:Nat):MeetsO PG (PI pb) (aa cX #[.pointer (some (aR pb))]) tP d4 dl []:=by
 refine ld (aR pb) ?_
 unfold gm d4
 refine ag (bk pb) (fun _ h=>nomatch h) fun x b=>Sim.prop fun h=>?_
 subst h
 refine gA fun y K=>?_
 exact rZ (t:=tP) K (List.sublist_append_left ..) _ rfl (fun F hF=>hF _ (List.mem_cons_self ..))
theorem zE {R:a6} (hR:cJ R) (pb:Nat) (pos:Int):Meets PG (PI pb) (aa j0 #[.pointer (some (aR pb)),.int .i64 pos]) tP (lr R pos) NodeF []:=by
 refine uH (aR pb) pos ?_
 unfold jR lr
 (with_reducible repeat (first | refine sA ?_ | refine sB ?_ | refine sC ?_ | refine sD ?_ | refine sE ?_ | refine sF ?_))
 first | refine ag (fe _) (fun _ h=>nomatch h) fun r1 nr1=>?_ | refine af (fe _) (fun _ h=>nomatch h) fun r1 nr1=>?_
 (with_reducible repeat (first | refine sA ?_ | refine sB ?_ | refine sC ?_ | refine sD ?_ | refine sE ?_ | refine sF ?_))
 refine iZ (HD _) (fun _ h=>nomatch h) fun r2 nr2 Kr2=>?_
 (with_reducible repeat (first | refine sA ?_ | refine sB ?_ | refine sC ?_ | refine sD ?_ | refine sE ?_ | refine sF ?_))
 first | refine ag (bk _) (fun _ h=>nomatch h) fun r3 b=>Sim.prop fun h=>?_ | refine af (bk _) (fun _ h=>nomatch h) fun r3 b=>Sim.prop fun h=>?_
 subst h
 refine Dw ?_ fun nx1 nx2 x1 x2=>?_
 ·skip
  (with_reducible repeat (first | refine sA ?_ | refine sB ?_ | refine sC ?_ | refine sD ?_ | refine sE ?_ | refine sF ?_))
  (first | refine qA (fun h=>?_) fun h=>?_ | refine qB (fun h=>?_) fun h=>?_ | refine qC (fun h=>?_) fun h=>?_ | refine qD (fun h=>?_) fun h=>?_ | refine qE (fun h=>?_) fun h=>?_) -- ((r3.1:Int)==1)
  ·skip
   (with_reducible repeat (first | refine sA ?_ | refine sB ?_ | refine sC ?_ | refine sD ?_ | refine sE ?_ | refine sF ?_))
   first | refine ag (ch _) (fun _ h=>nomatch h) fun r4 b=>Sim.prop fun h=>?_ | refine af (ch _) (fun _ h=>nomatch h) fun r4 b=>Sim.prop fun h=>?_
   subst h
   (with_reducible repeat (first | refine sA ?_ | refine sB ?_ | refine sC ?_ | refine sD ?_ | refine sE ?_ | refine sF ?_))
   first | refine ag (dN _) (fun _ h=>nomatch h) fun r5 nr5=>?_ | refine af (dN _) (fun _ h=>nomatch h) fun r5 nr5=>?_
   refine ca [r5] [nr5] rfl (by decide) (by decide) (by kernel_rfl) (fun F hF=>(.cons _ _ _ _ (hF (NodeF nr5 r5) (by repeat (first | exact mz | apply ms))) .nil)) fun r7=>?_
   refine aW (u0 [r7] rfl (by decide) (by decide) (by kernel_rfl)) ?_
   rintro sl _ _ ⟨rfl,rfl⟩
   refine rf (n:=nr2) (ps:=[r7]) (kids:=[aE 66 r4 0 pos [nr5]]) (by repeat (first | exact mz | apply ms)) (fun F hF=>⟨hF _ (List.mem_cons_self ..),.cons _ _ _ _ (hF (NodeF (aE 66 r4 0 pos [nr5]) r7) (by repeat (first | exact mz | apply ms))) .nil⟩) ?_
   exact zI (nr1,nr2.setKids [aE 66 r4 0 pos [nr5]]) rfl (by repeat (first | exact mz | apply ms)) (by repeat (first | exact mz | apply ms))
  ·skip
   (with_reducible repeat (first | refine sA ?_ | refine sB ?_ | refine sC ?_ | refine sD ?_ | refine sE ?_ | refine sF ?_))
   first | refine ag (jF hR _) (fun _ h=>nomatch h) fun r11 nr11=>?_ | refine af (jF hR _) (fun _ h=>nomatch h) fun r11 nr11=>?_
   (with_reducible repeat (first | refine sA ?_ | refine sB ?_ | refine sC ?_ | refine sD ?_ | refine sE ?_ | refine sF ?_))
   first | refine ag (aJ _ _) (fun _ h=>nomatch h) fun x b=>?_ | refine af (aJ _ _) (fun _ h=>nomatch h) fun x b=>?_
   (with_reducible repeat (first | refine sA ?_ | refine sB ?_ | refine sC ?_ | refine sD ?_ | refine sE ?_ | refine sF ?_))
   first | refine ag (fS hR _ _) (fun _ h=>nomatch h) fun r13 nr13=>?_ | refine af (fS hR _ _) (fun _ h=>nomatch h) fun r13 nr13=>?_
   (with_reducible repeat (first | refine sA ?_ | refine sB ?_ | refine sC ?_ | refine sD ?_ | refine sE ?_ | refine sF ?_))
   first | refine ag (aJ _ _) (fun _ h=>nomatch h) fun x b=>?_ | refine af (aJ _ _) (fun _ h=>nomatch h) fun x b=>?_
   exact zI (nr11,nr13) rfl (by repeat (first | exact mz | apply ms)) (by repeat (first | exact mz | apply ms))
 ·skip
  (with_reducible repeat (first | refine sA ?_ | refine sB ?_ | refine sC ?_ | refine sD ?_ | refine sE ?_ | refine sF ?_))
  first | refine ag (aJ _ _) (fun _ h=>nomatch h) fun x b=>?_ | refine af (aJ _ _) (fun _ h=>nomatch h) fun x b=>?_
  (with_reducible repeat (first | refine sA ?_ | refine sB ?_ | refine sC ?_ | refine sD ?_ | refine sE ?_ | refine sF ?_))
  first | refine ag (cr _ _) (fun _ h=>nomatch h) fun r17 b=>Sim.prop fun h=>?_ | refine af (cr _ _) (fun _ h=>nomatch h) fun r17 b=>Sim.prop fun h=>?_
  subst h
  (with_reducible repeat (first | refine sA ?_ | refine sB ?_ | refine sC ?_ | refine sD ?_ | refine sE ?_ | refine sF ?_))
  (first | refine qA (fun h=>?_) fun h=>?_ | refine qB (fun h=>?_) fun h=>?_ | refine qC (fun h=>?_) fun h=>?_ | refine qD (fun h=>?_) fun h=>?_ | refine qE (fun h=>?_) fun h=>?_) -- r17
  ·skip
   (with_reducible repeat (first | refine sA ?_ | refine sB ?_ | refine sC ?_ | refine sD ?_ | refine sE ?_ | refine sF ?_))
   first | refine ag (hR.block _) (fun _ h=>nomatch h) fun r18 nr18=>?_ | refine af (hR.block _) (fun _ h=>nomatch h) fun r18 nr18=>?_
   refine ca [x1,x2,r18] [nx1,nx2,nr18] rfl (by decide) (by decide) (by kernel_rfl) (fun F hF=>(.cons _ _ _ _ (hF (NodeF nx1 x1) (by repeat (first | exact mz | apply ms))) (.cons _ _ _ _ (hF (NodeF nx2 x2) (by repeat (first | exact mz | apply ms))) (.cons _ _ _ _ (hF (NodeF nr18 r18) (by repeat (first | exact mz | apply ms))) .nil)))) fun r20=>?_
   (with_reducible repeat (first | refine sA ?_ | refine sB ?_ | refine sC ?_ | refine sD ?_ | refine sE ?_ | refine sF ?_))
   exact av (t:=tP) _ rfl (fun F hF=>hF _ (by repeat (first | exact mz | apply ms)))
  ·skip
   (with_reducible repeat (first | refine sA ?_ | refine sB ?_ | refine sC ?_ | refine sD ?_ | refine sE ?_ | refine sF ?_))
   first | refine ag (hR.expr _) (fun _ h=>nomatch h) fun r21 nr21=>?_ | refine af (hR.expr _) (fun _ h=>nomatch h) fun r21 nr21=>?_
   refine ca [x1,x2,r21] [nx1,nx2,nr21] rfl (by decide) (by decide) (by kernel_rfl) (fun F hF=>(.cons _ _ _ _ (hF (NodeF nx1 x1) (by repeat (first | exact mz | apply ms))) (.cons _ _ _ _ (hF (NodeF nx2 x2) (by repeat (first | exact mz | apply ms))) (.cons _ _ _ _ (hF (NodeF nr21 r21) (by repeat (first | exact mz | apply ms))) .nil)))) fun r23=>?_
   (with_reducible repeat (first | refine sA ?_ | refine sB ?_ | refine sC ?_ | refine sD ?_ | refine sE ?_ | refine sF ?_))
   exact av (t:=tP) _ rfl (fun F hF=>hF _ (by repeat (first | exact mz | apply ms)))
theorem F7 {R:a6} (hR:cJ R) (pb:Nat):Meets PG (PI pb) (aa mJ #[.pointer (some (aR pb))]) tP (l4 R) NodeF []:=by
 refine AJ (aR pb) ?_
 unfold mD l4
 (with_reducible repeat (first | refine sA ?_ | refine sB ?_ | refine sC ?_ | refine sD ?_ | refine sE ?_ | refine sF ?_))
 first | refine ag (bk _) (fun _ h=>nomatch h) fun r1 b=>Sim.prop fun h=>?_ | refine af (bk _) (fun _ h=>nomatch h) fun r1 b=>Sim.prop fun h=>?_
 subst h
 refine ag (I7 hR _ 10 (by decide)) (fun _ h=>nomatch h) fun r2 nr2=>?_
 (with_reducible repeat (first | refine sA ?_ | refine sB ?_ | refine sC ?_ | refine sD ?_ | refine sE ?_ | refine sF ?_))
 first | refine ag (az _ _) (fun _ h=>nomatch h) fun r3 b=>Sim.prop fun h=>?_ | refine af (az _ _) (fun _ h=>nomatch h) fun r3 b=>Sim.prop fun h=>?_
 subst h
 (with_reducible repeat (first | refine sA ?_ | refine sB ?_ | refine sC ?_ | refine sD ?_ | refine sE ?_ | refine sF ?_))
 (first | refine qA (fun h=>?_) fun h=>?_ | refine qB (fun h=>?_) fun h=>?_ | refine qC (fun h=>?_) fun h=>?_ | refine qD (fun h=>?_) fun h=>?_ | refine qE (fun h=>?_) fun h=>?_) -- (!r3)
 ·skip
  (with_reducible repeat (first | refine sA ?_ | refine sB ?_ | refine sC ?_ | refine sD ?_ | refine sE ?_ | refine sF ?_))
  exact av (t:=tP) _ rfl (fun F hF=>hF _ (by repeat (first | exact mz | apply ms)))
 ·skip
  (with_reducible repeat (first | refine sA ?_ | refine sB ?_ | refine sC ?_ | refine sD ?_ | refine sE ?_ | refine sF ?_))
  first | refine ag (hR.expr _) (fun _ h=>nomatch h) fun r4 nr4=>?_ | refine af (hR.expr _) (fun _ h=>nomatch h) fun r4 nr4=>?_
  (with_reducible repeat (first | refine sA ?_ | refine sB ?_ | refine sC ?_ | refine sD ?_ | refine sE ?_ | refine sF ?_))
  first | refine ag (aJ _ _) (fun _ h=>nomatch h) fun x b=>?_ | refine af (aJ _ _) (fun _ h=>nomatch h) fun x b=>?_
  (with_reducible repeat (first | refine sA ?_ | refine sB ?_ | refine sC ?_ | refine sD ?_ | refine sE ?_ | refine sF ?_))
  first | refine ag (hR.expr _) (fun _ h=>nomatch h) fun r6 nr6=>?_ | refine af (hR.expr _) (fun _ h=>nomatch h) fun r6 nr6=>?_
  refine ca [r2,r4,r6] [nr2,nr4,nr6] rfl (by decide) (by decide) (by kernel_rfl) (fun F hF=>(.cons _ _ _ _ (hF (NodeF nr2 r2) (by repeat (first | exact mz | apply ms))) (.cons _ _ _ _ (hF (NodeF nr4 r4) (by repeat (first | exact mz | apply ms))) (.cons _ _ _ _ (hF (NodeF nr6 r6) (by repeat (first | exact mz | apply ms))) .nil)))) fun r8=>?_
  (with_reducible repeat (first | refine sA ?_ | refine sB ?_ | refine sC ?_ | refine sD ?_ | refine sE ?_ | refine sF ?_))
  exact av (t:=tP) _ rfl (fun F hF=>hF _ (by repeat (first | exact mz | apply ms)))
theorem KC {R:a6} (hR:cJ R) (pb:Nat):Meets PG (PI pb) (aa bS #[.pointer (some (aR pb))]) tP (tf R (l4 R)) NodeF []:=by
 refine Bb (aR pb) ?_
 unfold mY tf
 (with_reducible repeat (first | refine sA ?_ | refine sB ?_ | refine sC ?_ | refine sD ?_ | refine sE ?_ | refine sF ?_))
 first | refine ag (bk _) (fun _ h=>nomatch h) fun r1 b=>Sim.prop fun h=>?_ | refine af (bk _) (fun _ h=>nomatch h) fun r1 b=>Sim.prop fun h=>?_
 subst h
 (with_reducible repeat (first | refine sA ?_ | refine sB ?_ | refine sC ?_ | refine sD ?_ | refine sE ?_ | refine sF ?_))
 first | refine ag (Eb _) (fun _ h=>nomatch h) fun r2 b=>Sim.prop fun h=>?_ | refine af (Eb _) (fun _ h=>nomatch h) fun r2 b=>Sim.prop fun h=>?_
 subst h
 (with_reducible repeat (first | refine sA ?_ | refine sB ?_ | refine sC ?_ | refine sD ?_ | refine sE ?_ | refine sF ?_))
 (first | refine qA (fun h=>?_) fun h=>?_ | refine qB (fun h=>?_) fun h=>?_ | refine qC (fun h=>?_) fun h=>?_ | refine qD (fun h=>?_) fun h=>?_ | refine qE (fun h=>?_) fun h=>?_) -- r2
 ·skip
  (with_reducible repeat (first | refine sA ?_ | refine sB ?_ | refine sC ?_ | refine sD ?_ | refine sE ?_ | refine sF ?_))
  first | refine ag (zE hR _ _) (fun _ h=>nomatch h) fun r3 nr3=>?_ | refine af (zE hR _ _) (fun _ h=>nomatch h) fun r3 nr3=>?_
  (with_reducible repeat (first | refine sA ?_ | refine sB ?_ | refine sC ?_ | refine sD ?_ | refine sE ?_ | refine sF ?_))
  exact av (t:=tP) _ rfl (fun F hF=>hF _ (by repeat (first | exact mz | apply ms)))
 ·skip
  (with_reducible repeat (first | refine sA ?_ | refine sB ?_ | refine sC ?_ | refine sD ?_ | refine sE ?_ | refine sF ?_))
  first | refine ag (F7 hR _) (fun _ h=>nomatch h) fun r4 nr4=>?_ | refine af (F7 hR _) (fun _ h=>nomatch h) fun r4 nr4=>?_
  (with_reducible repeat (first | refine sA ?_ | refine sB ?_ | refine sC ?_ | refine sD ?_ | refine sE ?_ | refine sF ?_))
  first | refine ag (bk _) (fun _ h=>nomatch h) fun r5 b=>Sim.prop fun h=>?_ | refine af (bk _) (fun _ h=>nomatch h) fun r5 b=>Sim.prop fun h=>?_
  subst h
  (with_reducible repeat (first | refine sA ?_ | refine sB ?_ | refine sC ?_ | refine sD ?_ | refine sE ?_ | refine sF ?_))
  first | refine ag (az _ _) (fun _ h=>nomatch h) fun r6 b=>Sim.prop fun h=>?_ | refine af (az _ _) (fun _ h=>nomatch h) fun r6 b=>Sim.prop fun h=>?_
  subst h
  first | refine dg ?_ fun x11=>?_ | refine dU ?_ fun x11=>?_
  ·skip
   (with_reducible repeat (first | refine sA ?_ | refine sB ?_ | refine sC ?_ | refine sD ?_ | refine sE ?_ | refine sF ?_))
   (first | refine qA (fun h=>?_) fun h=>?_ | refine qB (fun h=>?_) fun h=>?_ | refine qC (fun h=>?_) fun h=>?_ | refine qD (fun h=>?_) fun h=>?_ | refine qE (fun h=>?_) fun h=>?_) -- r6
   ·skip
    exact ba _ rfl (by first | rfl | (simp only [Tok.kind] at *; simp_all))
   ·skip
    (with_reducible repeat (first | refine sA ?_ | refine sB ?_ | refine sC ?_ | refine sD ?_ | refine sE ?_ | refine sF ?_))
    first | refine ag (az _ _) (fun _ h=>nomatch h) fun r7 b=>Sim.prop fun h=>?_ | refine af (az _ _) (fun _ h=>nomatch h) fun r7 b=>Sim.prop fun h=>?_
    subst h
    (with_reducible repeat (first | refine sA ?_ | refine sB ?_ | refine sC ?_ | refine sD ?_ | refine sE ?_ | refine sF ?_))
    (first | refine qA (fun h=>?_) fun h=>?_ | refine qB (fun h=>?_) fun h=>?_ | refine qC (fun h=>?_) fun h=>?_ | refine qD (fun h=>?_) fun h=>?_ | refine qE (fun h=>?_) fun h=>?_) -- r7
    ·skip
     exact ba _ rfl (by first | rfl | (simp only [Tok.kind] at *; simp_all))
    ·skip
     (with_reducible repeat (first | refine sA ?_ | refine sB ?_ | refine sC ?_ | refine sD ?_ | refine sE ?_ | refine sF ?_))
     first | refine ag (az _ _) (fun _ h=>nomatch h) fun r8 b=>Sim.prop fun h=>?_ | refine af (az _ _) (fun _ h=>nomatch h) fun r8 b=>Sim.prop fun h=>?_
     subst h
     (with_reducible repeat (first | refine sA ?_ | refine sB ?_ | refine sC ?_ | refine sD ?_ | refine sE ?_ | refine sF ?_))
     (first | refine qA (fun h=>?_) fun h=>?_ | refine qB (fun h=>?_) fun h=>?_ | refine qC (fun h=>?_) fun h=>?_ | refine qD (fun h=>?_) fun h=>?_ | refine qE (fun h=>?_) fun h=>?_) -- r8
     ·skip
      exact ba _ rfl (by first | rfl | (simp only [Tok.kind] at *; simp_all))
     ·skip
      (with_reducible repeat (first | refine sA ?_ | refine sB ?_ | refine sC ?_ | refine sD ?_ | refine sE ?_ | refine sF ?_))
      first | refine ag (az _ _) (fun _ h=>nomatch h) fun r9 b=>Sim.prop fun h=>?_ | refine af (az _ _) (fun _ h=>nomatch h) fun r9 b=>Sim.prop fun h=>?_
      subst h
      (with_reducible repeat (first | refine sA ?_ | refine sB ?_ | refine sC ?_ | refine sD ?_ | refine sE ?_ | refine sF ?_))
      (first | refine qA (fun h=>?_) fun h=>?_ | refine qB (fun h=>?_) fun h=>?_ | refine qC (fun h=>?_) fun h=>?_ | refine qD (fun h=>?_) fun h=>?_ | refine qE (fun h=>?_) fun h=>?_) -- r9
      ·skip
       exact ba _ rfl (by first | rfl | (simp only [Tok.kind] at *; simp_all))
      ·skip
       (with_reducible repeat (first | refine sA ?_ | refine sB ?_ | refine sC ?_ | refine sD ?_ | refine sE ?_ | refine sF ?_))
       first | refine ag (az _ _) (fun _ h=>nomatch h) fun r10 b=>Sim.prop fun h=>?_ | refine af (az _ _) (fun _ h=>nomatch h) fun r10 b=>Sim.prop fun h=>?_
       subst h
       exact ba _ rfl (by first | rfl | (simp only [Tok.kind] at *; simp_all))
  ·skip
   (with_reducible repeat (first | refine sA ?_ | refine sB ?_ | refine sC ?_ | refine sD ?_ | refine sE ?_ | refine sF ?_))
   (first | refine qA (fun h=>?_) fun h=>?_ | refine qB (fun h=>?_) fun h=>?_ | refine qC (fun h=>?_) fun h=>?_ | refine qD (fun h=>?_) fun h=>?_ | refine qE (fun h=>?_) fun h=>?_) -- x11.1
   ·skip
    first | refine dg ?_ fun x18=>?_ | refine dU ?_ fun x18=>?_
    ·skip
     refine jY (by repeat (first | exact mz | apply ms)) ?_
     (with_reducible repeat (first | refine sA ?_ | refine sB ?_ | refine sC ?_ | refine sD ?_ | refine sE ?_ | refine sF ?_))
     refine qE (fun h17=>?_) (fun h17=>?_)
     ·skip
      refine jY (by repeat (first | exact mz | apply ms)) ?_
      (with_reducible repeat (first | refine sA ?_ | refine sB ?_ | refine sC ?_ | refine sD ?_ | refine sE ?_ | refine sF ?_))
      refine qE (fun h29=>?_) (fun h29=>?_)
      ·skip
       refine jY (by repeat (first | exact mz | apply ms)) ?_
       exact ba _ rfl (by show cond (nr4.kind != 17&&nr4.kind != 29&&nr4.kind != 30) _ _=_; rw [show (nr4.kind != 17)=true from h17,show (nr4.kind != 29)=true from h29]; rfl)
      ·skip
       exact ba _ rfl (by show cond (nr4.kind != 17&&nr4.kind != 29&&nr4.kind != 30) _ _=_; rw [show (nr4.kind != 17)=true from h17,show (nr4.kind != 29)=false from h29]; rfl)
     ·skip
      exact ba _ rfl (by show cond (nr4.kind != 17&&nr4.kind != 29&&nr4.kind != 30) _ _=_; rw [show (nr4.kind != 17)=false from h17]; rfl)
    ·skip
     (with_reducible repeat (first | refine sA ?_ | refine sB ?_ | refine sC ?_ | refine sD ?_ | refine sE ?_ | refine sF ?_))
     (first | refine qA (fun h=>?_) fun h=>?_ | refine qB (fun h=>?_) fun h=>?_ | refine qC (fun h=>?_) fun h=>?_ | refine qD (fun h=>?_) fun h=>?_ | refine qE (fun h=>?_) fun h=>?_) -- x18.1
     ·skip
      exact ej (β1:=Unit) (Rel1:=fun _ _ _=>Fact.prop True) (gl _) (fun _ h=>nomatch h) (by first | exact eh | exact ez _)
     ·skip
      (with_reducible repeat (first | refine sA ?_ | refine sB ?_ | refine sC ?_ | refine sD ?_ | refine sE ?_ | refine sF ?_))
      first | refine ag (hR.expr _) (fun _ h=>nomatch h) fun r23 nr23=>?_ | refine af (hR.expr _) (fun _ h=>nomatch h) fun r23 nr23=>?_
      refine ca [r4,r23] [nr4,nr23] rfl (by decide) (by decide) (by kernel_rfl) (fun F hF=>(.cons _ _ _ _ (hF (NodeF nr4 r4) (by repeat (first | exact mz | apply ms))) (.cons _ _ _ _ (hF (NodeF nr23 r23) (by repeat (first | exact mz | apply ms))) .nil))) fun r25=>?_
      (with_reducible repeat (first | refine sA ?_ | refine sB ?_ | refine sC ?_ | refine sD ?_ | refine sE ?_ | refine sF ?_))
      exact av (t:=tP) _ rfl (fun F hF=>hF _ (by repeat (first | exact mz | apply ms)))
   ·skip
    (with_reducible repeat (first | refine sA ?_ | refine sB ?_ | refine sC ?_ | refine sD ?_ | refine sE ?_ | refine sF ?_))
    exact av (t:=tP) _ rfl (fun F hF=>hF _ (by repeat (first | exact mz | apply ms)))
end Go.Proofs.YtjlgcpgjdgeejaaGreatDoor
end

section
namespace Go.Proofs.YtjlgcpgjdgeejaaGreatDoor
open Go
set_option linter.unusedVariables false
set_option maxRecDepth 100000
noncomputable section
def vt:An :=
 .s (.r [none]) (.s (.r [none,some (.c (.agg [.int .i64,.str,.int .i64,.int .i64])),none,some tP,none]) (.s (.r [none,some tU]) (.s (.j [] (.b (.l [] (.s (.s (.r [none,some tB,none]) (.c (.x) (.x))) (.b (.d (.q 0 none (.q 1 none (.q 2 (some tA) (.q 3 none (.q 4 (some ai) (.q 5 none (.l 6 (some tP) (.l 7 (some ai) (.l 8 (some ai) (.q 9 (some tA) (.q 10 none (.l 11 (some tU) (.e))))))))))))))))))) (.s (.r [none,some tU]) (.s (.r [none,none]) (.x))))))
def lJ (a0_p:Addr):T :=
 .op (aa aL #[.pointer (some a0_p)]) (.c (.agg [.int .i64,.str,.int .i64,.int .i64])) fun r1 =>
 .op (aa al #[.int .i64 63,.string kE,.int .i64 0,.int .i64 r1.2.2.1,.slice none 0 0]) tP fun r2 =>
 .op (aa aA #[.pointer (some a0_p),.string k_lc]) tU fun _ =>
 .join 0 [] (
 .loop 1 [] [] fun x4 =>
 .op (aa bw #[.pointer (some a0_p),.string k_rc]) tB fun r5 =>
 .ite (!r5) (
 .draw <|
 .opq (cg (.pointer r2)) tA fun r6 =>
 .opq (am ae (.pointer (some ⟨r6.block,r6.off+5,none⟩))) ai fun r7 =>
 .opl (aa dI #[.pointer (some a0_p)]) tP fun r8 =>
 .opl (aG ae 1 #[(0,.pointer r8)]) ai fun r9 =>
 .opl (cW #[ae,ae] ae #[.slice r7.1 r7.2.1 r7.2.2,.slice r9.1 r9.2.1 r9.2.2]) ai fun r10 =>
 .opq (cg (.pointer r2)) tA fun r11 =>
 .op (a7 ae (.pointer (some ⟨r11.block,r11.off+5,none⟩)) (.slice r10.1 r10.2.1 r10.2.2)) tU fun _ =>
 .out 1 []) (
 .out 0 [])) fun x13 =>
 .op (aa aA #[.pointer (some a0_p),.string k_rc]) tU fun _ =>
 .ret #[.v (.pointer r2)]
theorem xj (a0_p:Addr):cc Tryz.prog Tryz.f133 vt [.pointer (some a0_p)]=lJ a0_p:=by kernel_rfl
theorem yZ {ε σ β:Type} {I:aN ε σ} {t:Ty} {s:Sp ε σ β} {Rel:β→t.den→ak→Fact} {Γ:List Fact} (a0_p:Addr) (h:Sim Tryz.prog I t Rel noLabel none (lJ a0_p) s [] Γ):MeetsO Tryz.prog I (aa cH #[.pointer (some a0_p)]) t s Rel Γ :=
 aq (args:=[.pointer (some a0_p)]) Tryz.func133 rfl rfl (Nat.le_of_ble_eq_true rfl) (by rw [xj]; exact h)
def w8:An :=
 .s (.r [none]) (.s (.r [none,some tU]) (.s (.r [none,some tP,none]) (.s (.r [none,some tU]) (.s (.r [none,none]) (.x)))))
def lj (a0_p:Addr):T :=
 .op (aa aA #[.pointer (some a0_p),.string k_lp]) tU fun _ =>
 .op (aa bS #[.pointer (some a0_p)]) tP fun r2 =>
 .op (aa aA #[.pointer (some a0_p),.string k_rp]) tU fun _ =>
 .ret #[.v (.pointer r2)]
theorem xO (a0_p:Addr):cc Tryz.prog Tryz.f136 w8 [.pointer (some a0_p)]=lj a0_p:=by kernel_rfl
theorem xm {ε σ β:Type} {I:aN ε σ} {t:Ty} {s:Sp ε σ β} {Rel:β→t.den→ak→Fact} {Γ:List Fact} (a0_p:Addr) (h:Sim Tryz.prog I t Rel noLabel none (lj a0_p) s [] Γ):MeetsO Tryz.prog I (aa ji #[.pointer (some a0_p)]) t s Rel Γ :=
 aq (args:=[.pointer (some a0_p)]) Tryz.func136 rfl rfl (Nat.le_of_ble_eq_true rfl) (by rw [xO]; exact h)
def we:An :=
 .s (.r [none]) (.s (.r [none,some tP,none]) (.s (.s (.j [(18,.b .bool)] (.r [none,none,none,none,some tB,none,none])) (.c (.r [none,some tP,none]) (.x))) (.s (.r [none,some tU]) (.s (.r [none,none,none,some ai,some tP,none]) (.x)))))
def ln (a0_p:Addr) (a1_kind:Int) (a2_at:Int) (a3_may:Bool):T :=
 .op (aa da #[.pointer (some a0_p)]) tP fun r1 =>
 .join 0 [.b .bool] (
 .ite (!a3_may) (
 .out 0 [.bool true]) (
 .op (aa bw #[.pointer (some a0_p),.string cw]) tB fun r2 =>
 .out 0 [.bool (!r2)])) fun x3 =>
 .ite x3.1 (
 .op (aa bS #[.pointer (some a0_p)]) tP fun r4 =>
 .op (aa aA #[.pointer (some a0_p),.string cw]) tU fun _ =>
 .op (aG ae 1 #[(0,.pointer r4)]) ai fun r6 =>
 .op (aa al #[.int .i64 a1_kind,.string kE,.int .i64 0,.int .i64 a2_at,.slice r6.1 r6.2.1 r6.2.2]) tP fun r7 =>
 .ret #[.v (.pointer r7)]) (
 .op (aa aA #[.pointer (some a0_p),.string cw]) tU fun _ =>
 .op (aG ae 1 #[(0,.pointer r1)]) ai fun r9 =>
 .op (aa al #[.int .i64 a1_kind,.string kE,.int .i64 0,.int .i64 a2_at,.slice r9.1 r9.2.1 r9.2.2]) tP fun r10 =>
 .ret #[.v (.pointer r10)])
theorem za (a0_p:Addr) (a1_kind:Int) (a2_at:Int) (a3_may:Bool):cc Tryz.prog Tryz.f138 we [.pointer (some a0_p),.int .i64 a1_kind,.int .i64 a2_at,.bool a3_may]=ln a0_p a1_kind a2_at a3_may:=by kernel_rfl
theorem xv {ε σ β:Type} {I:aN ε σ} {t:Ty} {s:Sp ε σ β} {Rel:β→t.den→ak→Fact} {Γ:List Fact} (a0_p:Addr) (a1_kind:Int) (a2_at:Int) (a3_may:Bool) (h:Sim Tryz.prog I t Rel noLabel none (ln a0_p a1_kind a2_at a3_may) s [] Γ):MeetsO Tryz.prog I (aa gi #[.pointer (some a0_p),.int .i64 a1_kind,.int .i64 a2_at,.bool a3_may]) t s Rel Γ :=
 aq (args:=[.pointer (some a0_p),.int .i64 a1_kind,.int .i64 a2_at,.bool a3_may]) Tryz.func138 rfl rfl (Nat.le_of_ble_eq_true rfl) (by rw [za]; exact h)
def rq:An :=
 .s (.r [none]) (.s (.r [none,some (.c (.agg [.int .i64,.str,.int .i64,.int .i64])),some tA,some tU]) (.s (.s (.r [none,some tI,none]) (.j [] (.c (.s (.r [none,some (.c (.agg [.int .i64,.str,.int .i64,.int .i64])),some tP,none]) (.s (.r [none,some tB]) (.c (.s (.r [none,none]) (.x)) (.x)))) (.x)))) (.s (.b (.s (.r [none,some tB,none]) (.c (.s (.r [none,some tP,none]) (.x)) (.s (.r [none,some tB,none]) (.c (.s (.r [none,some tI,some tP,none]) (.x)) (.s (.r [none,some tB,none]) (.c (.s (.r [none,some tP,none]) (.x)) (.s (.r [none,some tB,none]) (.c (.s (.r [none,some tP,none]) (.s (.d (.q 0 none (.q 1 (some tI) (.q 2 none (.q 3 none (.l 4 (some tP) (.l 5 (some ai) (.l 6 (some tP) (.q 7 none (.e)))))))))) (.x))) (.s (.r [none,some tB,none]) (.c (.s (.r [none,none,some tI,some tP,none]) (.x)) (.s (.r [none,some tB,none]) (.c (.s (.r [none,none,some tI,some tP,none]) (.x)) (.s (.r [none,some tB,none]) (.c (.s (.r [none,none,some tI,some tP,none]) (.x)) (.s (.r [none,some tB,none]) (.c (.s (.r [none,some tU]) (.s (.r [none,some tI,some tP,none]) (.x))) (.s (.r [none,some tB,none]) (.c (.s (.r [none,some tU]) (.s (.r [none,some tI,some tP,none]) (.x))) (.s (.r [none,some tB,none]) (.c (.s (.r [none,none,some tI,some tP,none]) (.x)) (.x)))))))))))))))))))))) (.s (.r [none,none,some tI,some tP,none]) (.x)))))
def iI (a0_a0:Addr):T :=
 .op (aa aL #[.pointer (some a0_a0)]) (.c (.agg [.int .i64,.str,.int .i64,.int .i64])) fun r1 =>
 .op (bD ad) tA fun r2 =>
 .op (a7 ad (.pointer (some r2)) (.agg #[.int .i64 r1.1,.string r1.2.1,.int .i64 r1.2.2.1,.int .i64 r1.2.2.2.1])) tU fun _ =>
 .op (am ar (.pointer (some r2))) tI fun r4 =>
 .join 0 [] (
 .ite ((r4:Int)==2) (
 .op (am ad (.pointer (some r2))) (.c (.agg [.int .i64,.str,.int .i64,.int .i64])) fun r5 =>
 .op (aa ea #[.pointer (some a0_a0),.agg #[.int .i64 r5.1,.string r5.2.1,.int .i64 r5.2.2.1,.int .i64 r5.2.2.2.1]]) tP fun r6 =>
 .op (cU .neq bl (.pointer r6) (.pointer none)) tB fun r7 =>
 .ite r7 (
 .ret #[.v (.pointer r6)]) (
 .out 0 [])) (
 .out 0 [])) fun x8 =>
 .op (aa bw #[.pointer (some a0_a0),.string k_lc]) tB fun r9 =>
 .ite r9 (
 .op (aa cH #[.pointer (some a0_a0)]) tP fun r10 =>
 .ret #[.v (.pointer r10)]) (
 .op (aa au #[.pointer (some a0_a0),.string cw]) tB fun r11 =>
 .ite r11 (
 .op (am ar (.pointer (some ⟨r2.block,r2.off+2,none⟩))) tI fun r12 =>
 .op (aa al #[.int .i64 65,.string kE,.int .i64 0,.int .i64 r12,.slice none 0 0]) tP fun r13 =>
 .ret #[.v (.pointer r13)]) (
 .op (aa bw #[.pointer (some a0_a0),.string DU]) tB fun r14 =>
 .ite r14 (
 .op (aa fE #[.pointer (some a0_a0)]) tP fun r15 =>
 .ret #[.v (.pointer r15)]) (
 .op (aa au #[.pointer (some a0_a0),.string Gv]) tB fun r16 =>
 .ite r16 (
 .op (aa ji #[.pointer (some a0_a0)]) tP fun r17 =>
 .draw <|
 .opq (am ar (.pointer (some ⟨r2.block,r2.off+2,none⟩))) tI fun r18 =>
 .opl (aa cH #[.pointer (some a0_a0)]) tP fun r19 =>
 .opl (aG ae 2 #[(0,.pointer r17),(1,.pointer r19)]) ai fun r20 =>
 .opl (aa al #[.int .i64 54,.string kE,.int .i64 0,.int .i64 r18,.slice r20.1 r20.2.1 r20.2.2]) tP fun r21 =>
 .ret #[.v (.pointer r21)]) (
 .op (aa au #[.pointer (some a0_a0),.string J3]) tB fun r22 =>
 .ite r22 (
 .op (am ar (.pointer (some ⟨r2.block,r2.off+2,none⟩))) tI fun r23 =>
 .op (aa nl #[.pointer (some a0_a0),.int .i64 r23]) tP fun r24 =>
 .ret #[.v (.pointer r24)]) (
 .op (aa au #[.pointer (some a0_a0),.string DX]) tB fun r25 =>
 .ite r25 (
 .op (am ar (.pointer (some ⟨r2.block,r2.off+2,none⟩))) tI fun r26 =>
 .op (aa gi #[.pointer (some a0_a0),.int .i64 57,.int .i64 r26,.bool true]) tP fun r27 =>
 .ret #[.v (.pointer r27)]) (
 .op (aa au #[.pointer (some a0_a0),.string F8]) tB fun r28 =>
 .ite r28 (
 .op (am ar (.pointer (some ⟨r2.block,r2.off+2,none⟩))) tI fun r29 =>
 .op (aa gi #[.pointer (some a0_a0),.int .i64 60,.int .i64 r29,.bool false]) tP fun r30 =>
 .ret #[.v (.pointer r30)]) (
 .op (aa au #[.pointer (some a0_a0),.string FZ]) tB fun r31 =>
 .ite r31 (
 .op (aa aA #[.pointer (some a0_a0),.string cw]) tU fun _ =>
 .op (am ar (.pointer (some ⟨r2.block,r2.off+2,none⟩))) tI fun r33 =>
 .op (aa al #[.int .i64 58,.string kE,.int .i64 0,.int .i64 r33,.slice none 0 0]) tP fun r34 =>
 .ret #[.v (.pointer r34)]) (
 .op (aa au #[.pointer (some a0_a0),.string ze]) tB fun r35 =>
 .ite r35 (
 .op (aa aA #[.pointer (some a0_a0),.string cw]) tU fun _ =>
 .op (am ar (.pointer (some ⟨r2.block,r2.off+2,none⟩))) tI fun r37 =>
 .op (aa al #[.int .i64 59,.string kE,.int .i64 0,.int .i64 r37,.slice none 0 0]) tP fun r38 =>
 .ret #[.v (.pointer r38)]) (
 .op (aa au #[.pointer (some a0_a0),.string Kt]) tB fun r39 =>
 .ite r39 (
 .op (am ar (.pointer (some ⟨r2.block,r2.off+2,none⟩))) tI fun r40 =>
 .op (aa nZ #[.pointer (some a0_a0),.int .i64 r40]) tP fun r41 =>
 .ret #[.v (.pointer r41)]) (
 .op (am ar (.pointer (some ⟨r2.block,r2.off+2,none⟩))) tI fun r42 =>
 .op (aa gi #[.pointer (some a0_a0),.int .i64 64,.int .i64 r42,.bool false]) tP fun r43 =>
 .ret #[.v (.pointer r43)]))))))))))
theorem rH (a0_a0:Addr):cc Tryz.prog Tryz.f86 rq [.pointer (some a0_a0)]=iI a0_a0:=by kernel_rfl
theorem sh {ε σ β:Type} {I:aN ε σ} {t:Ty} {s:Sp ε σ β} {Rel:β→t.den→ak→Fact} {Γ:List Fact} (a0_a0:Addr) (h:Sim Tryz.prog I t Rel noLabel none (iI a0_a0) s [] Γ):MeetsO Tryz.prog I (aa dI #[.pointer (some a0_a0)]) t s Rel Γ :=
 aq (args:=[.pointer (some a0_a0)]) Tryz.func86 rfl rfl (Nat.le_of_ble_eq_true rfl) (by rw [rH]; exact h)
def uq:An :=
 .s (.r [none]) (.s (.r [none,some (.c (.agg [.int .i64,.str,.int .i64,.int .i64])),none,none]) (.s (.r [none,some tU]) (.s (.r [none,some tP,none]) (.s (.r [none,some tP,none]) (.s (.r [none,some tP,none]) (.s (.s (.r [none,some tB]) (.c (.s (.r [none,some tB]) (.c (.r [none,some tP,none]) (.r [none,some tP,none]))) (.x))) (.s (.r [none,none,none,none,some ai,some tP,none]) (.x))))))))
def kt (a0_p:Addr):T :=
 .op (aa aL #[.pointer (some a0_p)]) (.c (.agg [.int .i64,.str,.int .i64,.int .i64])) fun r1 =>
 .op (aa aA #[.pointer (some a0_p),.string DU]) tU fun _ =>
 .op (aa ji #[.pointer (some a0_p)]) tP fun r3 =>
 .op (aa cH #[.pointer (some a0_p)]) tP fun r4 =>
 .op (aa da #[.pointer (some a0_p)]) tP fun r5 =>
 .op (aa au #[.pointer (some a0_p),.string ID]) tB fun r6 =>
 .ite r6 (
 .op (aa bw #[.pointer (some a0_p),.string DU]) tB fun r7 =>
 .ite r7 (
 .op (aa fE #[.pointer (some a0_p)]) tP fun r8 =>
 .op (aG ae 3 #[(0,.pointer r3),(1,.pointer r4),(2,.pointer r8)]) ai fun r9 =>
 .op (aa al #[.int .i64 53,.string kE,.int .i64 0,.int .i64 r1.2.2.1,.slice r9.1 r9.2.1 r9.2.2]) tP fun r10 =>
 .ret #[.v (.pointer r10)]) (
 .op (aa cH #[.pointer (some a0_p)]) tP fun r11 =>
 .op (aG ae 3 #[(0,.pointer r3),(1,.pointer r4),(2,.pointer r11)]) ai fun r12 =>
 .op (aa al #[.int .i64 53,.string kE,.int .i64 0,.int .i64 r1.2.2.1,.slice r12.1 r12.2.1 r12.2.2]) tP fun r13 =>
 .ret #[.v (.pointer r13)])) (
 .op (aG ae 3 #[(0,.pointer r3),(1,.pointer r4),(2,.pointer r5)]) ai fun r14 =>
 .op (aa al #[.int .i64 53,.string kE,.int .i64 0,.int .i64 r1.2.2.1,.slice r14.1 r14.2.1 r14.2.2]) tP fun r15 =>
 .ret #[.v (.pointer r15)])
theorem vz (a0_p:Addr):cc Tryz.prog Tryz.f135 uq [.pointer (some a0_p)]=kt a0_p:=by kernel_rfl
theorem wY {ε σ β:Type} {I:aN ε σ} {t:Ty} {s:Sp ε σ β} {Rel:β→t.den→ak→Fact} {Γ:List Fact} (a0_p:Addr) (h:Sim Tryz.prog I t Rel noLabel none (kt a0_p) s [] Γ):MeetsO Tryz.prog I (aa fE #[.pointer (some a0_p)]) t s Rel Γ :=
 aq (args:=[.pointer (some a0_p)]) Tryz.func135 rfl rfl (Nat.le_of_ble_eq_true rfl) (by rw [vz]; exact h)
def xz:An :=
 .s (.r [some tA,none]) (.s (.r [some tP,some tU]) (.s (.s (.j [(31,.b .bool)] (.r [some tP,some tB,none,some tP,some tB,none,none,some tP,some (.c (.agg [.int .i64,.str,.int .i64,.int .i64])),none,none,none,none,some tP,some (.c (.agg [.int .i64,.str,.int .i64,.int .i64])),some tB,none])) (.c (.s (.r [none]) (.s (.s (.r [some tP,some (.c (.agg [.int .i64,.str,.int .i64,.int .i64])),none,none]) (.j [(5,.b (.int .i64))] (.c (.r [none]) (.x)))) (.s (.r [some tP,some tS,none]) (.s (.r [some tP,some tU]) (.s (.r [some tP,some tP,none]) (.s (.r [some tP,some tU]) (.s (.r [none,none,none,none,some tP,some tP,some ai,some tP,none]) (.x)))))))) (.x))) (.s (.r [some tP,some tP,none]) (.s (.s (.r [some tP,some (.c (.agg [.int .i64,.str,.int .i64,.int .i64])),none,none]) (.s (.r [some tP,some tB]) (.j [(8,.b .ptr)] (.c (.r [some tP,none,some tP,none]) (.x))))) (.s (.r [some tP,some tU]) (.s (.r [none,none]) (.s (.r [none,some tP,none]) (.s (.r [none,some tP,none]) (.s (.r [none,none,none,none,some tP,some tP,some ai,some tP,none]) (.x))))))))))
def nc (a0_a0:Addr) (a1_a1:Int):T :=
 .op (iK aD (.pointer (some a0_a0))) tA fun r1 =>
 .op (am aD (.pointer (some r1))) tP fun r2 =>
 .op (aa aA #[.pointer r2,.string k_lp]) tU fun _ =>
 .join 0 [.b .bool] (
 .op (am aD (.pointer (some r1))) tP fun r4 =>
 .op (aa bw #[.pointer r4,.string kW]) tB fun r5 =>
 .ite r5 (
 .op (am aD (.pointer (some r1))) tP fun r6 =>
 .op (aa dJ #[.pointer r6,.int .i64 1]) (.c (.agg [.int .i64,.str,.int .i64,.int .i64])) fun r7 =>
 .ite ((r7.1:Int)==1) (
 .op (am aD (.pointer (some r1))) tP fun r8 =>
 .op (aa dJ #[.pointer r8,.int .i64 2]) (.c (.agg [.int .i64,.str,.int .i64,.int .i64])) fun r9 =>
 .op (aa di #[.agg #[.int .i64 r9.1,.string r9.2.1,.int .i64 r9.2.2.1,.int .i64 r9.2.2.2.1],.string Eo]) tB fun r10 =>
 .out 0 [.bool r10]) (
 .out 0 [.bool false])) (
 .op (am aD (.pointer (some r1))) tP fun r11 =>
 .op (aa bw #[.pointer r11,.string kconst]) tB fun r12 =>
 .ite r12 (
 .op (am aD (.pointer (some r1))) tP fun r13 =>
 .op (aa dJ #[.pointer r13,.int .i64 1]) (.c (.agg [.int .i64,.str,.int .i64,.int .i64])) fun r14 =>
 .ite ((r14.1:Int)==1) (
 .op (am aD (.pointer (some r1))) tP fun r15 =>
 .op (aa dJ #[.pointer r15,.int .i64 2]) (.c (.agg [.int .i64,.str,.int .i64,.int .i64])) fun r16 =>
 .op (aa di #[.agg #[.int .i64 r16.1,.string r16.2.1,.int .i64 r16.2.2.1,.int .i64 r16.2.2.2.1],.string Eo]) tB fun r17 =>
 .out 0 [.bool r17]) (
 .out 0 [.bool false])) (
 .out 0 [.bool false]))) fun x18 =>
 .ite x18.1 (
 .op (am aD (.pointer (some r1))) tP fun r19 =>
 .op (aa cl #[.pointer r19]) (.c (.agg [.int .i64,.str,.int .i64,.int .i64])) fun r20 =>
 .join 0 [.b (.int .i64)] (
 .ite (r20.2.1.toList==kconst.toList) (
 .out 0 [.int .i64 1]) (
 .out 0 [.int .i64 0])) fun x21 =>
 .op (am aD (.pointer (some r1))) tP fun r22 =>
 .op (aa bG #[.pointer r22]) tS fun r23 =>
 .op (am aD (.pointer (some r1))) tP fun r24 =>
 .op (aa aA #[.pointer r24,.string Eo]) tU fun _ =>
 .op (am aD (.pointer (some r1))) tP fun r26 =>
 .op (aa bS #[.pointer r26]) tP fun r27 =>
 .op (am aD (.pointer (some r1))) tP fun r28 =>
 .op (aa aA #[.pointer r28,.string k_rp]) tU fun _ =>
 .op (am aD (.pointer (some r1))) tP fun r30 =>
 .op (aa cH #[.pointer r30]) tP fun r31 =>
 .op (aG ae 2 #[(0,.pointer r27),(1,.pointer r31)]) ai fun r32 =>
 .op (aa al #[.int .i64 56,.string r23,.int .i64 x21.1,.int .i64 a1_a1,.slice r32.1 r32.2.1 r32.2.2]) tP fun r33 =>
 .ret #[.v (.pointer r33)]) (
 .op (am aD (.pointer (some r1))) tP fun r34 =>
 .op (aa da #[.pointer r34]) tP fun r35 =>
 .op (am aD (.pointer (some r1))) tP fun r36 =>
 .op (aa aL #[.pointer r36]) (.c (.agg [.int .i64,.str,.int .i64,.int .i64])) fun r37 =>
 .op (am aD (.pointer (some r1))) tP fun r38 =>
 .op (aa au #[.pointer r38,.string kW]) tB fun r39 =>
 .join 0 [.b .ptr] (
 .ite r39 (
 .op (am aD (.pointer (some r1))) tP fun r40 =>
 .op (aa eL #[.pointer r40,.int .i64 0,.int .i64 r37.2.2.1]) tP fun r41 =>
 .out 0 [.pointer r41]) (
 .out 0 [.pointer r35])) fun x42 =>
 .op (am aD (.pointer (some r1))) tP fun r43 =>
 .op (aa aA #[.pointer r43,.string cw]) tU fun _ =>
 .op (dE (.func (.func ie) #[] #[.pointer (some r1)]) #[.string cw]) tP fun r45 =>
 .op (dE (.func (.func ie) #[] #[.pointer (some r1)]) #[.string k_rp]) tP fun r46 =>
 .op (am aD (.pointer (some r1))) tP fun r47 =>
 .op (aa cH #[.pointer r47]) tP fun r48 =>
 .op (aG ae 4 #[(0,.pointer x42.1),(1,.pointer r45),(2,.pointer r46),(3,.pointer r48)]) ai fun r49 =>
 .op (aa al #[.int .i64 55,.string kE,.int .i64 0,.int .i64 a1_a1,.slice r49.1 r49.2.1 r49.2.2]) tP fun r50 =>
 .ret #[.v (.pointer r50)])
theorem A3 (a0_a0:Addr) (a1_a1:Int):cc Tryz.prog Tryz.f137 xz [.pointer (some a0_a0),.int .i64 a1_a1]=nc a0_a0 a1_a1:=by kernel_rfl
theorem AE {ε σ β:Type} {I:aN ε σ} {t:Ty} {s:Sp ε σ β} {Rel:β→t.den→ak→Fact} {Γ:List Fact} (a0_a0:Addr) (a1_a1:Int) (h:Sim Tryz.prog I t Rel noLabel none (nc a0_a0 a1_a1) s [] Γ):MeetsO Tryz.prog I (aa nl #[.pointer (some a0_a0),.int .i64 a1_a1]) t s Rel Γ :=
 aq (args:=[.pointer (some a0_a0),.int .i64 a1_a1]) Tryz.func137 rfl rfl (Nat.le_of_ble_eq_true rfl) (by rw [A3]; exact h)
def u3:An :=
 .s (.r [none]) (.s (.r [some tP,some tP,none]) (.s (.s (.r [some tP,none,some tB,none]) (.c (.r [some tP,some tP,none]) (.x))) (.s (.r [some tP,none,some tU]) (.s (.r [none,none]) (.x)))))
def k8 (a0_end:ByteArray) (a1_a1:Addr):T :=
 .op (am aD (.pointer (some a1_a1))) tP fun r1 =>
 .op (aa da #[.pointer r1]) tP fun r2 =>
 .op (am aD (.pointer (some a1_a1))) tP fun r3 =>
 .op (aa bw #[.pointer r3,.string a0_end]) tB fun r4 =>
 .ite (!r4) (
 .op (am aD (.pointer (some a1_a1))) tP fun r5 =>
 .op (aa bS #[.pointer r5]) tP fun r6 =>
 .op (am aD (.pointer (some a1_a1))) tP fun r7 =>
 .op (aa aA #[.pointer r7,.string a0_end]) tU fun _ =>
 .ret #[.v (.pointer r6)]) (
 .op (am aD (.pointer (some a1_a1))) tP fun r9 =>
 .op (aa aA #[.pointer r9,.string a0_end]) tU fun _ =>
 .ret #[.v (.pointer r2)])
theorem wj (a0_end:ByteArray) (a1_a1:Addr):cc Tryz.prog Tryz.f189 u3 [.string a0_end,.pointer (some a1_a1)]=k8 a0_end a1_a1:=by kernel_rfl
theorem vY {ε σ β:Type} {I:aN ε σ} {t:Ty} {s:Sp ε σ β} {Rel:β→t.den→ak→Fact} {Γ:List Fact} (a0_end:ByteArray) (a1_a1:Addr) (h:Sim Tryz.prog I t Rel noLabel none (k8 a0_end a1_a1) s [] Γ):MeetsO Tryz.prog I (aa ie #[.string a0_end,.pointer (some a1_a1)]) t s Rel Γ :=
 aq (args:=[.string a0_end,.pointer (some a1_a1)]) Tryz.func189 rfl rfl (Nat.le_of_ble_eq_true rfl) (by rw [wj]; exact h)
def rQ:An :=
 .s (.r [none]) (.s (.r [none,some tS,none]) (.s (.r [none,some tP,none]) (.s (.r [none,some tU]) (.s (.r [none,none,none,none,none,some tP,some ai,some tP,none]) (.x)))))
def jt (a0_p:Addr) (a1_n:Int) (a2_at:Int):T :=
 .op (aa bG #[.pointer (some a0_p)]) tS fun r1 =>
 .op (aa ee #[.pointer (some a0_p)]) tP fun r2 =>
 .op (aa aA #[.pointer (some a0_p),.string lc]) tU fun _ =>
 .op (aa bS #[.pointer (some a0_p)]) tP fun r4 =>
 .op (aG ae 2 #[(0,.pointer r2),(1,.pointer r4)]) ai fun r5 =>
 .op (aa al #[.int .i64 40,.string r1,.int .i64 a1_n,.int .i64 a2_at,.slice r5.1 r5.2.1 r5.2.2]) tP fun r6 =>
 .ret #[.v (.pointer r6)]
theorem tz (a0_p:Addr) (a1_n:Int) (a2_at:Int):cc Tryz.prog Tryz.f180 rQ [.pointer (some a0_p),.int .i64 a1_n,.int .i64 a2_at]=jt a0_p a1_n a2_at:=by kernel_rfl
theorem tC {ε σ β:Type} {I:aN ε σ} {t:Ty} {s:Sp ε σ β} {Rel:β→t.den→ak→Fact} {Γ:List Fact} (a0_p:Addr) (a1_n:Int) (a2_at:Int) (h:Sim Tryz.prog I t Rel noLabel none (jt a0_p a1_n a2_at) s [] Γ):MeetsO Tryz.prog I (aa eL #[.pointer (some a0_p),.int .i64 a1_n,.int .i64 a2_at]) t s Rel Γ :=
 aq (args:=[.pointer (some a0_p),.int .i64 a1_n,.int .i64 a2_at]) Tryz.func180 rfl rfl (Nat.le_of_ble_eq_true rfl) (by rw [tz]; exact h)
def zQ:An :=
 .s (.r [none]) (.s (.r [none,some tP,none]) (.s (.r [none,some tP,none]) (.s (.s (.r [none,some (.c (.agg [.int .i64,.str,.int .i64,.int .i64])),none,none]) (.s (.r [none,some tB]) (.j [(6,.b .ptr)] (.c (.s (.r [none,some tU]) (.s (.r [none,some tS,none]) (.s (.r [none,some tU]) (.r [none,none,none,some tP,some ai,some tP,none])))) (.x))))) (.s (.r [none,some tP,none]) (.s (.s (.r [none,some tB]) (.j [(9,.b .ptr)] (.c (.r [none,some tP,none]) (.x)))) (.s (.s (.j [(50,.b .bool)] (.r [none,some tA,none,none,some tI,none,none,none,some tA,none,none,some tI,none,none])) (.c (.r [none,some tU]) (.x))) (.s (.r [none,none,none,none,some ai,some tP,none]) (.x))))))))
def oC (a0_p:Addr) (a1_at:Int):T :=
 .op (aa cH #[.pointer (some a0_p)]) tP fun r1 =>
 .op (aa da #[.pointer (some a0_p)]) tP fun r2 =>
 .op (aa aL #[.pointer (some a0_p)]) (.c (.agg [.int .i64,.str,.int .i64,.int .i64])) fun r3 =>
 .op (aa au #[.pointer (some a0_p),.string GK]) tB fun r4 =>
 .join 0 [.b .ptr] (
 .ite r4 (
 .op (aa aA #[.pointer (some a0_p),.string k_lp]) tU fun _ =>
 .op (aa bG #[.pointer (some a0_p)]) tS fun r6 =>
 .op (aa aA #[.pointer (some a0_p),.string k_rp]) tU fun _ =>
 .op (aa cH #[.pointer (some a0_p)]) tP fun r8 =>
 .op (aG ae 1 #[(0,.pointer r8)]) ai fun r9 =>
 .op (aa al #[.int .i64 62,.string r6,.int .i64 0,.int .i64 r3.2.2.1,.slice r9.1 r9.2.1 r9.2.2]) tP fun r10 =>
 .out 0 [.pointer r10]) (
 .out 0 [.pointer r2])) fun x11 =>
 .op (aa da #[.pointer (some a0_p)]) tP fun r12 =>
 .op (aa au #[.pointer (some a0_p),.string ue]) tB fun r13 =>
 .join 0 [.b .ptr] (
 .ite r13 (
 .op (aa cH #[.pointer (some a0_p)]) tP fun r14 =>
 .out 0 [.pointer r14]) (
 .out 0 [.pointer r12])) fun x15 =>
 .join 0 [.b .bool] (
 .op (cg (.pointer x11.1)) tA fun r16 =>
 .op (am ar (.pointer (some r16))) tI fun r17 =>
 .ite ((r17:Int)==1) (
 .op (cg (.pointer x15.1)) tA fun r18 =>
 .op (am ar (.pointer (some r18))) tI fun r19 =>
 .out 0 [.bool ((r19:Int)==1)]) (
 .out 0 [.bool false])) fun x20 =>
 .ite x20.1 (
 .op (aa cY #[.pointer (some a0_p)]) tU fun _ =>
 .op (aG ae 3 #[(0,.pointer r1),(1,.pointer x11.1),(2,.pointer x15.1)]) ai fun r22 =>
 .op (aa al #[.int .i64 61,.string kE,.int .i64 0,.int .i64 a1_at,.slice r22.1 r22.2.1 r22.2.2]) tP fun r23 =>
 .ret #[.v (.pointer r23)]) (
 .op (aG ae 3 #[(0,.pointer r1),(1,.pointer x11.1),(2,.pointer x15.1)]) ai fun r24 =>
 .op (aa al #[.int .i64 61,.string kE,.int .i64 0,.int .i64 a1_at,.slice r24.1 r24.2.1 r24.2.2]) tP fun r25 =>
 .ret #[.v (.pointer r25)])
theorem Cg (a0_p:Addr) (a1_at:Int):cc Tryz.prog Tryz.f140 zQ [.pointer (some a0_p),.int .i64 a1_at]=oC a0_p a1_at:=by kernel_rfl
theorem BE {ε σ β:Type} {I:aN ε σ} {t:Ty} {s:Sp ε σ β} {Rel:β→t.den→ak→Fact} {Γ:List Fact} (a0_p:Addr) (a1_at:Int) (h:Sim Tryz.prog I t Rel noLabel none (oC a0_p a1_at) s [] Γ):MeetsO Tryz.prog I (aa nZ #[.pointer (some a0_p),.int .i64 a1_at]) t s Rel Γ :=
 aq (args:=[.pointer (some a0_p),.int .i64 a1_at]) Tryz.func140 rfl rfl (Nat.le_of_ble_eq_true rfl) (by rw [Cg]; exact h)
def qu:An :=
 .s (.r [some tA,none]) (.s (.b (.s (.j [(13,.b .bool)] (.r [none,some tB,none,none,some (.c (.agg [.int .i64,.str,.int .i64,.int .i64])),some tB,none,none])) (.c (.s (.r [none,some (.c (.agg [.int .i64,.str,.int .i64,.int .i64]))]) (.s (.r [none,none,some tI,some tP,none]) (.x))) (.s (.r [none,some tB,none]) (.c (.s (.r [none,none,some tI,some tP,none]) (.s (.r [none,some tU]) (.s (.r [none,none]) (.x)))) (.s (.r [none,some tB,none]) (.c (.s (.r [none,none,some tI,some tP,none]) (.s (.r [none,some tU]) (.s (.r [none,none]) (.x)))) (.s (.r [none,some tB,none]) (.c (.s (.r [none,none,some tI,some tP,none]) (.x)) (.s (.r [none,some tB,none]) (.c (.s (.r [none,none,some tI,some tP,none]) (.x)) (.s (.r [none,some tB,none]) (.c (.s (.r [none,none,some tI,some tP,none]) (.x)) (.s (.r [none,some tB,none]) (.c (.s (.r [none,none,some tI,some tP,none]) (.x)) (.s (.r [none,some tB,none]) (.c (.s (.r [none,some tS,none]) (.s (.r [none,some tP,none]) (.s (.r [none,some tP,none]) (.s (.d (.q 0 none (.q 1 none (.q 2 (some tI) (.q 3 none (.q 4 none (.q 5 none (.l 6 (some tP) (.l 7 (some ai) (.l 8 (some tP) (.q 9 none (.e)))))))))))) (.x))))) (.s (.r [none,some tB,none]) (.c (.s (.r [none,some tS,none]) (.s (.r [none,some tP,none]) (.s (.r [none,some tU]) (.s (.r [none,some tP,none]) (.s (.r [none,some tU]) (.s (.r [none,none,some tI,none,none,some ai,some tP,none]) (.x))))))) (.x)))))))))))))))))))) (.s (.r [none]) (.x)))
def gw (a0_a0:Addr) (a1_a1:HB [.int .i64,.str,.int .i64,.int .i64]):T :=
 .op (iK ad (.agg #[.int .i64 a1_a1.1,.string a1_a1.2.1,.int .i64 a1_a1.2.2.1,.int .i64 a1_a1.2.2.2.1])) tA fun r1 =>
 .join 0 [.b .bool] (
 .op (aa bw #[.pointer (some a0_a0),.string kconst]) tB fun r2 =>
 .ite r2 (
 .op (aa dJ #[.pointer (some a0_a0),.int .i64 1]) (.c (.agg [.int .i64,.str,.int .i64,.int .i64])) fun r3 =>
 .op (aa di #[.agg #[.int .i64 r3.1,.string r3.2.1,.int .i64 r3.2.2.1,.int .i64 r3.2.2.2.1],.string qH]) tB fun r4 =>
 .out 0 [.bool r4]) (
 .out 0 [.bool false])) fun x5 =>
 .ite x5.1 (
 .op (aa cl #[.pointer (some a0_a0)]) (.c (.agg [.int .i64,.str,.int .i64,.int .i64])) fun r6 =>
 .op (am ar (.pointer (some ⟨r1.block,r1.off+2,none⟩))) tI fun r7 =>
 .op (aa jM #[.pointer (some a0_a0),.int .i64 1,.int .i64 r7]) tP fun r8 =>
 .ret #[.v (.pointer r8)]) (
 .op (aa au #[.pointer (some a0_a0),.string kW]) tB fun r9 =>
 .ite r9 (
 .op (am ar (.pointer (some ⟨r1.block,r1.off+2,none⟩))) tI fun r10 =>
 .op (aa eL #[.pointer (some a0_a0),.int .i64 0,.int .i64 r10]) tP fun r11 =>
 .op (aa aA #[.pointer (some a0_a0),.string cw]) tU fun _ =>
 .ret #[.v (.pointer r11)]) (
 .op (aa au #[.pointer (some a0_a0),.string kconst]) tB fun r13 =>
 .ite r13 (
 .op (am ar (.pointer (some ⟨r1.block,r1.off+2,none⟩))) tI fun r14 =>
 .op (aa eL #[.pointer (some a0_a0),.int .i64 1,.int .i64 r14]) tP fun r15 =>
 .op (aa aA #[.pointer (some a0_a0),.string cw]) tU fun _ =>
 .ret #[.v (.pointer r15)]) (
 .op (aa au #[.pointer (some a0_a0),.string rK]) tB fun r17 =>
 .ite r17 (
 .op (am ar (.pointer (some ⟨r1.block,r1.off+2,none⟩))) tI fun r18 =>
 .op (aa fY #[.pointer (some a0_a0),.int .i64 41,.int .i64 r18]) tP fun r19 =>
 .ret #[.v (.pointer r19)]) (
 .op (aa au #[.pointer (some a0_a0),.string B4]) tB fun r20 =>
 .ite r20 (
 .op (am ar (.pointer (some ⟨r1.block,r1.off+2,none⟩))) tI fun r21 =>
 .op (aa lg #[.pointer (some a0_a0),.int .i64 r21]) tP fun r22 =>
 .ret #[.v (.pointer r22)]) (
 .op (aa bw #[.pointer (some a0_a0),.string qH]) tB fun r23 =>
 .ite r23 (
 .op (am ar (.pointer (some ⟨r1.block,r1.off+2,none⟩))) tI fun r24 =>
 .op (aa jM #[.pointer (some a0_a0),.int .i64 0,.int .i64 r24]) tP fun r25 =>
 .ret #[.v (.pointer r25)]) (
 .op (aa au #[.pointer (some a0_a0),.string qP]) tB fun r26 =>
 .ite r26 (
 .op (am ar (.pointer (some ⟨r1.block,r1.off+2,none⟩))) tI fun r27 =>
 .op (aa iv #[.pointer (some a0_a0),.int .i64 r27]) tP fun r28 =>
 .ret #[.v (.pointer r28)]) (
 .op (aa au #[.pointer (some a0_a0),.string q0]) tB fun r29 =>
 .ite r29 (
 .op (aa bG #[.pointer (some a0_a0)]) tS fun r30 =>
 .op (aa eJ #[.pointer (some a0_a0)]) tP fun r31 =>
 .op (aa jL #[.pointer (some a0_a0),.string oy]) tP fun r32 =>
 .draw <|
 .opq (am ar (.pointer (some ⟨r1.block,r1.off+2,none⟩))) tI fun r33 =>
 .opl (aa fw #[.pointer (some a0_a0)]) tP fun r34 =>
 .opl (aG ae 3 #[(0,.pointer r31),(1,.pointer r32),(2,.pointer r34)]) ai fun r35 =>
 .opl (aa al #[.int .i64 51,.string r30,.int .i64 0,.int .i64 r33,.slice r35.1 r35.2.1 r35.2.2]) tP fun r36 =>
 .ret #[.v (.pointer r36)]) (
 .op (aa au #[.pointer (some a0_a0),.string E4]) tB fun r37 =>
 .ite r37 (
 .op (aa bG #[.pointer (some a0_a0)]) tS fun r38 =>
 .op (aa eJ #[.pointer (some a0_a0)]) tP fun r39 =>
 .op (aa aA #[.pointer (some a0_a0),.string lc]) tU fun _ =>
 .op (aa cI #[.pointer (some a0_a0)]) tP fun r41 =>
 .op (aa aA #[.pointer (some a0_a0),.string cw]) tU fun _ =>
 .op (am ar (.pointer (some ⟨r1.block,r1.off+2,none⟩))) tI fun r43 =>
 .op (aG ae 2 #[(0,.pointer r39),(1,.pointer r41)]) ai fun r44 =>
 .op (aa al #[.int .i64 52,.string r38,.int .i64 0,.int .i64 r43,.slice r44.1 r44.2.1 r44.2.2]) tP fun r45 =>
 .ret #[.v (.pointer r45)]) (
 .ret #[.v (.pointer none)])))))))))
theorem qY (a0_a0:Addr) (a1_a1:HB [.int .i64,.str,.int .i64,.int .i64]):cc Tryz.prog Tryz.f131 qu [.pointer (some a0_a0),.agg #[.int .i64 a1_a1.1,.string a1_a1.2.1,.int .i64 a1_a1.2.2.1,.int .i64 a1_a1.2.2.2.1]]=gw a0_a0 a1_a1:=by kernel_rfl
theorem qU {ε σ β:Type} {I:aN ε σ} {t:Ty} {s:Sp ε σ β} {Rel:β→t.den→ak→Fact} {Γ:List Fact} (a0_a0:Addr) (a1_a1:HB [.int .i64,.str,.int .i64,.int .i64]) (h:Sim Tryz.prog I t Rel noLabel none (gw a0_a0 a1_a1) s [] Γ):MeetsO Tryz.prog I (aa ea #[.pointer (some a0_a0),.agg #[.int .i64 a1_a1.1,.string a1_a1.2.1,.int .i64 a1_a1.2.2.1,.int .i64 a1_a1.2.2.2.1]]) t s Rel Γ :=
 aq (args:=[.pointer (some a0_a0),.agg #[.int .i64 a1_a1.1,.string a1_a1.2.1,.int .i64 a1_a1.2.2.1,.int .i64 a1_a1.2.2.2.1]]) Tryz.func131 rfl rfl (Nat.le_of_ble_eq_true rfl) (by rw [qY]; exact h)
def rV:An :=
 .s (.r [none]) (.s (.r [none,some tS,none]) (.s (.r [none,some tP,none]) (.s (.r [none,some tU]) (.s (.r [none,some tP,none]) (.s (.r [none,some tU]) (.s (.r [none,some tP,none]) (.s (.r [none,none,none,none,none,none,none,some tP,some ai,some tP,none]) (.x))))))))
def jx (a0_p:Addr) (a1_kind:Int) (a2_at:Int):T :=
 .op (aa bG #[.pointer (some a0_p)]) tS fun r1 =>
 .op (aa eJ #[.pointer (some a0_p)]) tP fun r2 =>
 .op (aa aA #[.pointer (some a0_p),.string k_lp]) tU fun _ =>
 .op (aa d8 #[.pointer (some a0_p),.bool false]) tP fun r4 =>
 .op (aa aA #[.pointer (some a0_p),.string k_rp]) tU fun _ =>
 .op (aa ee #[.pointer (some a0_p)]) tP fun r6 =>
 .op (aa cH #[.pointer (some a0_p)]) tP fun r7 =>
 .op (aG ae 4 #[(0,.pointer r2),(1,.pointer r4),(2,.pointer r6),(3,.pointer r7)]) ai fun r8 =>
 .op (aa al #[.int .i64 a1_kind,.string r1,.int .i64 0,.int .i64 a2_at,.slice r8.1 r8.2.1 r8.2.2]) tP fun r9 =>
 .ret #[.v (.pointer r9)]
theorem tK (a0_p:Addr) (a1_kind:Int) (a2_at:Int):cc Tryz.prog Tryz.f181 rV [.pointer (some a0_p),.int .i64 a1_kind,.int .i64 a2_at]=jx a0_p a1_kind a2_at:=by kernel_rfl
theorem tL {ε σ β:Type} {I:aN ε σ} {t:Ty} {s:Sp ε σ β} {Rel:β→t.den→ak→Fact} {Γ:List Fact} (a0_p:Addr) (a1_kind:Int) (a2_at:Int) (h:Sim Tryz.prog I t Rel noLabel none (jx a0_p a1_kind a2_at) s [] Γ):MeetsO Tryz.prog I (aa fY #[.pointer (some a0_p),.int .i64 a1_kind,.int .i64 a2_at]) t s Rel Γ :=
 aq (args:=[.pointer (some a0_p),.int .i64 a1_kind,.int .i64 a2_at]) Tryz.func181 rfl rfl (Nat.le_of_ble_eq_true rfl) (by rw [tK]; exact h)
def wT:An :=
 .s (.r [none]) (.s (.r [none,some tS,none]) (.s (.r [none,some tP,none]) (.s (.r [none,some tP,none]) (.s (.s (.r [none,some (.c (.agg [.int .i64,.str,.int .i64,.int .i64])),none,none]) (.s (.r [none,some tB]) (.j [(7,.b .ptr)] (.c (.s (.r [none,some tS,none]) (.r [none,none,none,some tP,some ai,some tP,none])) (.x))))) (.s (.r [none,some tP,none]) (.s (.r [none,some tU]) (.s (.r [none,some tP,none]) (.s (.r [none]) (.s (.j [(12,.b (.int .i64))] (.b (.l [(12,.b (.int .i64))] (.s (.s (.r [none,some tB,none]) (.c (.x) (.x))) (.b (.s (.r [none,some tP,none]) (.s (.s (.r [none,some tA,none,none,some tI,none]) (.j [(12,.b (.int .i64))] (.c (.r [none,none,none]) (.x)))) (.r [none,none,some tA,none,some ai,none,some ai,some ai,some tA,none,some tU])))))))) (.s (.s (.r [none,none]) (.c (.r [none,some tU]) (.x))) (.s (.r [none,some tU]) (.s (.r [none,none,none,none,none,none,some ai,some tP,none]) (.x)))))))))))))
def lL (a0_a0:Addr) (a1_a1:Int):T :=
 .op (aa bG #[.pointer (some a0_a0)]) tS fun r1 =>
 .op (aa eJ #[.pointer (some a0_a0)]) tP fun r2 =>
 .op (aa da #[.pointer (some a0_a0)]) tP fun r3 =>
 .op (aa aL #[.pointer (some a0_a0)]) (.c (.agg [.int .i64,.str,.int .i64,.int .i64])) fun r4 =>
 .op (aa au #[.pointer (some a0_a0),.string oy]) tB fun r5 =>
 .join 0 [.b .ptr] (
 .ite r5 (
 .op (aa bG #[.pointer (some a0_a0)]) tS fun r6 =>
 .op (aa eH #[.pointer (some a0_a0)]) tP fun r7 =>
 .op (aG ae 1 #[(0,.pointer r7)]) ai fun r8 =>
 .op (aa al #[.int .i64 43,.string r6,.int .i64 0,.int .i64 r4.2.2.1,.slice r8.1 r8.2.1 r8.2.2]) tP fun r9 =>
 .out 0 [.pointer r9]) (
 .out 0 [.pointer r3])) fun x10 =>
 .op (aa jL #[.pointer (some a0_a0),.string pM]) tP fun r11 =>
 .op (aa aA #[.pointer (some a0_a0),.string k_lc]) tU fun _ =>
 .op (aa cX #[.pointer (some a0_a0)]) tP fun r13 =>
 .join 0 [.b (.int .i64)] (
 .loop 1 [.b (.int .i64)] [.int .i64 0] fun x14 =>
 .op (aa bw #[.pointer (some a0_a0),.string k_rc]) tB fun r15 =>
 .ite (!r15) (
 .op (aa mI #[.pointer (some a0_a0)]) tP fun r16 =>
 .op (cg (.pointer r16)) tA fun r17 =>
 .op (am ar (.pointer (some r17))) tI fun r18 =>
 .join 2 [.b (.int .i64)] (
 .ite ((r18:Int)==46) (
 .out 2 [.int .i64 (IntKind.i64.wrap (x14.1+1))]) (
 .out 2 [.int .i64 x14.1])) fun x19 =>
 .op (cg (.pointer r13)) tA fun r20 =>
 .op (am ae (.pointer (some ⟨r20.block,r20.off+5,none⟩))) ai fun r21 =>
 .op (aG ae 1 #[(0,.pointer r16)]) ai fun r22 =>
 .op (cW #[ae,ae] ae #[.slice r21.1 r21.2.1 r21.2.2,.slice r22.1 r22.2.1 r22.2.2]) ai fun r23 =>
 .op (cg (.pointer r13)) tA fun r24 =>
 .op (a7 ae (.pointer (some ⟨r24.block,r24.off+5,none⟩)) (.slice r23.1 r23.2.1 r23.2.2)) tU fun _ =>
 .out 1 [.int .i64 x19.1]) (
 .out 0 [.int .i64 x14.1])) fun x26 =>
 .ite (decide ((x26.1:Int) > 1)) (
 .op (aa cY #[.pointer (some a0_a0)]) tU fun _ =>
 .op (aa aA #[.pointer (some a0_a0),.string k_rc]) tU fun _ =>
 .op (aG ae 4 #[(0,.pointer r2),(1,.pointer x10.1),(2,.pointer r11),(3,.pointer r13)]) ai fun r29 =>
 .op (aa al #[.int .i64 42,.string r1,.int .i64 0,.int .i64 a1_a1,.slice r29.1 r29.2.1 r29.2.2]) tP fun r30 =>
 .ret #[.v (.pointer r30)]) (
 .op (aa aA #[.pointer (some a0_a0),.string k_rc]) tU fun _ =>
 .op (aG ae 4 #[(0,.pointer r2),(1,.pointer x10.1),(2,.pointer r11),(3,.pointer r13)]) ai fun r32 =>
 .op (aa al #[.int .i64 42,.string r1,.int .i64 0,.int .i64 a1_a1,.slice r32.1 r32.2.1 r32.2.2]) tP fun r33 =>
 .ret #[.v (.pointer r33)])
theorem ys (a0_a0:Addr) (a1_a1:Int):cc Tryz.prog Tryz.f182 wT [.pointer (some a0_a0),.int .i64 a1_a1]=lL a0_a0 a1_a1:=by kernel_rfl
theorem yu {ε σ β:Type} {I:aN ε σ} {t:Ty} {s:Sp ε σ β} {Rel:β→t.den→ak→Fact} {Γ:List Fact} (a0_a0:Addr) (a1_a1:Int) (h:Sim Tryz.prog I t Rel noLabel none (lL a0_a0 a1_a1) s [] Γ):MeetsO Tryz.prog I (aa lg #[.pointer (some a0_a0),.int .i64 a1_a1]) t s Rel Γ :=
 aq (args:=[.pointer (some a0_a0),.int .i64 a1_a1]) Tryz.func182 rfl rfl (Nat.le_of_ble_eq_true rfl) (by rw [ys]; exact h)
def xT:An :=
 .s (.r [none]) (.s (.r [none,some (.c (.agg [.int .i64,.str,.int .i64,.int .i64])),none,none]) (.s (.s (.r [none,some tB]) (.c (.s (.r [none,some tU]) (.s (.r [none,some tP,none]) (.s (.r [none,some tU]) (.s (.r [none,none,none,some tP,some ai,some tP,none]) (.x))))) (.x))) (.s (.s (.r [none,some (.c (.agg [.int .i64,.str,.int .i64,.int .i64])),some tA,some tU]) (.s (.j [(40,.b .bool)] (.r [none,some (.c (.agg [.int .i64,.str,.int .i64,.int .i64])),none,none,none,some (.c (.agg [.int .i64,.str,.int .i64,.int .i64])),some tB,none,some (.c (.agg [.int .i64,.str,.int .i64,.int .i64])),some tB,none,none])) (.c (.s (.r [none,none,some tP,none]) (.x)) (.x)))) (.s (.r [none]) (.s (.s (.r [none,some tB]) (.j [(6,.b (.int .i64))] (.c (.r [none]) (.x)))) (.s (.r [none,some tS,none]) (.s (.r [none,some tP,none]) (.s (.r [none,some tP,none]) (.s (.s (.r [none,some tB]) (.c (.r [none,some tP,none]) (.x))) (.s (.r [none,some tU]) (.s (.r [none,none,none,none,none,some ai,some tP,none]) (.x))))))))))))
def nn (a0_a0:Addr):T :=
 .op (aa aL #[.pointer (some a0_a0)]) (.c (.agg [.int .i64,.str,.int .i64,.int .i64])) fun r1 =>
 .op (aa au #[.pointer (some a0_a0),.string so]) tB fun r2 =>
 .ite r2 (
 .op (aa aA #[.pointer (some a0_a0),.string k_lp]) tU fun _ =>
 .op (aa d8 #[.pointer (some a0_a0),.bool true]) tP fun r4 =>
 .op (aa aA #[.pointer (some a0_a0),.string k_rp]) tU fun _ =>
 .op (aa cH #[.pointer (some a0_a0)]) tP fun r6 =>
 .op (aG ae 2 #[(0,.pointer r4),(1,.pointer r6)]) ai fun r7 =>
 .op (aa al #[.int .i64 46,.string kE,.int .i64 0,.int .i64 r1.2.2.1,.slice r7.1 r7.2.1 r7.2.2]) tP fun r8 =>
 .ret #[.v (.pointer r8)]) (
 .op (aa dJ #[.pointer (some a0_a0),.int .i64 1]) (.c (.agg [.int .i64,.str,.int .i64,.int .i64])) fun r9 =>
 .op (bD ad) tA fun r10 =>
 .op (a7 ad (.pointer (some r10)) (.agg #[.int .i64 r9.1,.string r9.2.1,.int .i64 r9.2.2.1,.int .i64 r9.2.2.2.1])) tU fun _ =>
 .join 0 [.b .bool] (
 .op (aa aL #[.pointer (some a0_a0)]) (.c (.agg [.int .i64,.str,.int .i64,.int .i64])) fun r12 =>
 .ite ((r12.1:Int)==1) (
 .op (am ad (.pointer (some r10))) (.c (.agg [.int .i64,.str,.int .i64,.int .i64])) fun r13 =>
 .op (aa di #[.agg #[.int .i64 r13.1,.string r13.2.1,.int .i64 r13.2.2.1,.int .i64 r13.2.2.2.1],.string k_lp]) tB fun r14 =>
 .ite r14 (
 .out 0 [.bool true]) (
 .op (am ad (.pointer (some r10))) (.c (.agg [.int .i64,.str,.int .i64,.int .i64])) fun r15 =>
 .op (aa di #[.agg #[.int .i64 r15.1,.string r15.2.1,.int .i64 r15.2.2.1,.int .i64 r15.2.2.2.1],.string jU]) tB fun r16 =>
 .out 0 [.bool r16])) (
 .out 0 [.bool false])) fun x17 =>
 .ite x17.1 (
 .op (aa fY #[.pointer (some a0_a0),.int .i64 45,.int .i64 r1.2.2.1]) tP fun r18 =>
 .ret #[.v (.pointer r18)]) (
 .op (aa au #[.pointer (some a0_a0),.string j8]) tB fun r19 =>
 .join 0 [.b (.int .i64)] (
 .ite r19 (
 .out 0 [.int .i64 4]) (
 .out 0 [.int .i64 0])) fun x20 =>
 .op (aa bG #[.pointer (some a0_a0)]) tS fun r21 =>
 .op (aa ee #[.pointer (some a0_a0)]) tP fun r22 =>
 .op (aa da #[.pointer (some a0_a0)]) tP fun r23 =>
 .op (aa au #[.pointer (some a0_a0),.string lc]) tB fun r24 =>
 .ite r24 (
 .op (aa bS #[.pointer (some a0_a0)]) tP fun r25 =>
 .op (aa aA #[.pointer (some a0_a0),.string cw]) tU fun _ =>
 .op (aG ae 2 #[(0,.pointer r22),(1,.pointer r25)]) ai fun r27 =>
 .op (aa al #[.int .i64 44,.string r21,.int .i64 x20.1,.int .i64 r1.2.2.1,.slice r27.1 r27.2.1 r27.2.2]) tP fun r28 =>
 .ret #[.v (.pointer r28)]) (
 .op (aa aA #[.pointer (some a0_a0),.string cw]) tU fun _ =>
 .op (aG ae 2 #[(0,.pointer r22),(1,.pointer r23)]) ai fun r30 =>
 .op (aa al #[.int .i64 44,.string r21,.int .i64 x20.1,.int .i64 r1.2.2.1,.slice r30.1 r30.2.1 r30.2.2]) tP fun r31 =>
 .ret #[.v (.pointer r31)])))
theorem Ay (a0_a0:Addr):cc Tryz.prog Tryz.f216 xT [.pointer (some a0_a0)]=nn a0_a0:=by kernel_rfl
theorem AB {ε σ β:Type} {I:aN ε σ} {t:Ty} {s:Sp ε σ β} {Rel:β→t.den→ak→Fact} {Γ:List Fact} (a0_a0:Addr) (h:Sim Tryz.prog I t Rel noLabel none (nn a0_a0) s [] Γ):MeetsO Tryz.prog I (aa mI #[.pointer (some a0_a0)]) t s Rel Γ :=
 aq (args:=[.pointer (some a0_a0)]) Tryz.func216 rfl rfl (Nat.le_of_ble_eq_true rfl) (by rw [Ay]; exact h)
def ya:An :=
 .s (.r [none]) (.b (.s (.r [none,some tU]) (.s (.r [none,some tS,none,none,some tP,none]) (.s (.r [none,some tU]) (.s (.x) (.s (.j [] (.b (.l [] (.s (.s (.r [none,some tB,none]) (.c (.x) (.x))) (.b (.s (.r [none,some (.c (.agg [.int .i64,.str,.int .i64,.int .i64])),none,none]) (.s (.r [none,some tS,none]) (.s (.r [none,some tP,none]) (.s (.s (.r [none,some tB]) (.j [(10,.b .ptr)] (.c (.r [none,some tP,none]) (.x)))) (.s (.d (.q 0 none (.q 1 none (.q 2 (some tA) (.q 3 none (.q 4 (some ai) (.q 5 none (.q 6 none (.q 7 none (.l 8 (some ai) (.l 9 (some tP) (.l 10 (some ai) (.l 11 (some ai) (.q 12 (some tA) (.q 13 none (.l 14 (some tU) (.e))))))))))))))))) (.s (.r [none,some tB,none]) (.c (.x) (.x))))))))))))) (.s (.r [none,some tU]) (.s (.r [none,none]) (.x)))))))))
def nq (a0_p:Addr) (a1_n:Int) (a2_at:Int):T :=
 .op (aa aA #[.pointer (some a0_p),.string qH]) tU fun _ =>
 .op (aa bG #[.pointer (some a0_p)]) tS fun r2 =>
 .op (aa al #[.int .i64 47,.string r2,.int .i64 a1_n,.int .i64 a2_at,.slice none 0 0]) tP fun r3 =>
 .op (aa aA #[.pointer (some a0_p),.string k_lc]) tU fun _ =>
 .join 0 [] (
 .loop 1 [] [] fun x5 =>
 .op (aa bw #[.pointer (some a0_p),.string k_rc]) tB fun r6 =>
 .ite (!r6) (
 .op (aa aL #[.pointer (some a0_p)]) (.c (.agg [.int .i64,.str,.int .i64,.int .i64])) fun r7 =>
 .op (aa bG #[.pointer (some a0_p)]) tS fun r8 =>
 .op (aa da #[.pointer (some a0_p)]) tP fun r9 =>
 .op (aa au #[.pointer (some a0_p),.string lc]) tB fun r10 =>
 .join 2 [.b .ptr] (
 .ite r10 (
 .op (aa bS #[.pointer (some a0_p)]) tP fun r11 =>
 .out 2 [.pointer r11]) (
 .out 2 [.pointer r9])) fun x12 =>
 .draw <|
 .opq (cg (.pointer r3)) tA fun r13 =>
 .opq (am ae (.pointer (some ⟨r13.block,r13.off+5,none⟩))) ai fun r14 =>
 .opl (aG ae 1 #[(0,.pointer x12.1)]) ai fun r15 =>
 .opl (aa al #[.int .i64 48,.string r8,.int .i64 0,.int .i64 r7.2.2.1,.slice r15.1 r15.2.1 r15.2.2]) tP fun r16 =>
 .opl (aG ae 1 #[(0,.pointer r16)]) ai fun r17 =>
 .opl (cW #[ae,ae] ae #[.slice r14.1 r14.2.1 r14.2.2,.slice r17.1 r17.2.1 r17.2.2]) ai fun r18 =>
 .opq (cg (.pointer r3)) tA fun r19 =>
 .op (a7 ae (.pointer (some ⟨r19.block,r19.off+5,none⟩)) (.slice r18.1 r18.2.1 r18.2.2)) tU fun _ =>
 .op (aa au #[.pointer (some a0_p),.string gd]) tB fun r21 =>
 .ite (!r21) (
 .out 0 []) (
 .out 1 [])) (
 .out 0 [])) fun x22 =>
 .op (aa aA #[.pointer (some a0_p),.string k_rc]) tU fun _ =>
 .ret #[.v (.pointer r3)]
theorem AR (a0_p:Addr) (a1_n:Int) (a2_at:Int):cc Tryz.prog Tryz.f179 ya [.pointer (some a0_p),.int .i64 a1_n,.int .i64 a2_at]=nq a0_p a1_n a2_at:=by kernel_rfl
theorem AG {ε σ β:Type} {I:aN ε σ} {t:Ty} {s:Sp ε σ β} {Rel:β→t.den→ak→Fact} {Γ:List Fact} (a0_p:Addr) (a1_n:Int) (a2_at:Int) (h:Sim Tryz.prog I t Rel noLabel none (nq a0_p a1_n a2_at) s [] Γ):MeetsO Tryz.prog I (aa jM #[.pointer (some a0_p),.int .i64 a1_n,.int .i64 a2_at]) t s Rel Γ :=
 aq (args:=[.pointer (some a0_p),.int .i64 a1_n,.int .i64 a2_at]) Tryz.func179 rfl rfl (Nat.le_of_ble_eq_true rfl) (by rw [AR]; exact h)
def rt:An :=
 .s (.r [none]) (.s (.r [none,some tS,none,some tP,none]) (.s (.r [none,some tU]) (.s (.j [] (.b (.l [] (.s (.s (.r [none,some tB,none]) (.c (.x) (.x))) (.b (.s (.r [none,some (.c (.agg [.int .i64,.str,.int .i64,.int .i64])),some tA,some tU]) (.s (.s (.r [none,some tB,none]) (.c (.s (.d (.q 0 none (.q 1 none (.q 2 (some tA) (.q 3 none (.q 4 (some ai) (.q 5 none (.l 6 (some tP) (.l 7 (some ai) (.l 8 (some ai) (.q 9 (some tA) (.q 10 none (.l 11 (some tU) (.e)))))))))))))) (.x)) (.x))) (.s (.s (.j [(40,.b .bool)] (.r [none,some tB,none,none,some (.c (.agg [.int .i64,.str,.int .i64,.int .i64])),none,none,none])) (.j [] (.c (.r [none,some tU]) (.x)))) (.s (.r [none,none,some (.c (.agg [.int .i64,.str,.int .i64,.int .i64])),some tP,none]) (.s (.s (.j [(64,.b .bool)] (.r [none,some tB,none,none,some tA,none,none,some tI,none,none,none,some tA,none,none,some tI,none,none,none])) (.j [] (.c (.r [none,some tU]) (.x)))) (.d (.q 0 none (.q 1 none (.q 2 (some tA) (.q 3 none (.q 4 (some ai) (.q 5 none (.q 6 (some tI) (.q 7 none (.l 8 (some ai) (.l 9 (some tP) (.l 10 (some ai) (.l 11 (some ai) (.q 12 (some tA) (.q 13 none (.l 14 (some tU) (.e))))))))))))))))))))))))))) (.s (.r [none,some tU]) (.s (.r [none,none]) (.x))))))
def ip (a0_a0:Addr) (a1_a1:Int):T :=
 .op (aa bG #[.pointer (some a0_a0)]) tS fun r1 =>
 .op (aa al #[.int .i64 49,.string r1,.int .i64 0,.int .i64 a1_a1,.slice none 0 0]) tP fun r2 =>
 .op (aa aA #[.pointer (some a0_a0),.string k_lc]) tU fun _ =>
 .join 0 [] (
 .loop 1 [] [] fun x4 =>
 .op (aa bw #[.pointer (some a0_a0),.string k_rc]) tB fun r5 =>
 .ite (!r5) (
 .op (aa aL #[.pointer (some a0_a0)]) (.c (.agg [.int .i64,.str,.int .i64,.int .i64])) fun r6 =>
 .op (bD ad) tA fun r7 =>
 .op (a7 ad (.pointer (some r7)) (.agg #[.int .i64 r6.1,.string r6.2.1,.int .i64 r6.2.2.1,.int .i64 r6.2.2.2.1])) tU fun _ =>
 .op (aa au #[.pointer (some a0_a0),.string Ea]) tB fun r9 =>
 .ite (!r9) (
 .draw <|
 .opq (cg (.pointer r2)) tA fun r10 =>
 .opq (am ae (.pointer (some ⟨r10.block,r10.off+5,none⟩))) ai fun r11 =>
 .opl (aa dI #[.pointer (some a0_a0)]) tP fun r12 =>
 .opl (aG ae 1 #[(0,.pointer r12)]) ai fun r13 =>
 .opl (cW #[ae,ae] ae #[.slice r11.1 r11.2.1 r11.2.2,.slice r13.1 r13.2.1 r13.2.2]) ai fun r14 =>
 .opq (cg (.pointer r2)) tA fun r15 =>
 .op (a7 ae (.pointer (some ⟨r15.block,r15.off+5,none⟩)) (.slice r14.1 r14.2.1 r14.2.2)) tU fun _ =>
 .out 1 []) (
 .join 2 [.b .bool] (
 .op (aa bw #[.pointer (some a0_a0),.string kW]) tB fun r17 =>
 .ite r17 (
 .out 2 [.bool true]) (
 .op (aa aL #[.pointer (some a0_a0)]) (.c (.agg [.int .i64,.str,.int .i64,.int .i64])) fun r18 =>
 .out 2 [.bool ((r18.1:Int) != 2)])) fun x19 =>
 .join 2 [] (
 .ite x19.1 (
 .op (aa cY #[.pointer (some a0_a0)]) tU fun _ =>
 .out 2 []) (
 .out 2 [])) fun x21 =>
 .op (aa aL #[.pointer (some a0_a0)]) (.c (.agg [.int .i64,.str,.int .i64,.int .i64])) fun r22 =>
 .op (aa ea #[.pointer (some a0_a0),.agg #[.int .i64 r22.1,.string r22.2.1,.int .i64 r22.2.2.1,.int .i64 r22.2.2.2.1]]) tP fun r23 =>
 .join 2 [.b .bool] (
 .op (cU .eql bl (.pointer r23) (.pointer none)) tB fun r24 =>
 .ite r24 (
 .out 2 [.bool true]) (
 .op (cg (.pointer r23)) tA fun r25 =>
 .op (am ar (.pointer (some r25))) tI fun r26 =>
 .ite ((r26:Int)==47) (
 .op (cg (.pointer r23)) tA fun r27 =>
 .op (am ar (.pointer (some ⟨r27.block,r27.off+2,none⟩))) tI fun r28 =>
 .out 2 [.bool ((r28:Int)==1)]) (
 .out 2 [.bool false]))) fun x29 =>
 .join 2 [] (
 .ite x29.1 (
 .op (aa cY #[.pointer (some a0_a0)]) tU fun _ =>
 .out 2 []) (
 .out 2 [])) fun x31 =>
 .draw <|
 .opq (cg (.pointer r2)) tA fun r32 =>
 .opq (am ae (.pointer (some ⟨r32.block,r32.off+5,none⟩))) ai fun r33 =>
 .opq (am ar (.pointer (some ⟨r7.block,r7.off+2,none⟩))) tI fun r34 =>
 .opl (aG ae 1 #[(0,.pointer r23)]) ai fun r35 =>
 .opl (aa al #[.int .i64 50,.string kE,.int .i64 0,.int .i64 r34,.slice r35.1 r35.2.1 r35.2.2]) tP fun r36 =>
 .opl (aG ae 1 #[(0,.pointer r36)]) ai fun r37 =>
 .opl (cW #[ae,ae] ae #[.slice r33.1 r33.2.1 r33.2.2,.slice r37.1 r37.2.1 r37.2.2]) ai fun r38 =>
 .opq (cg (.pointer r2)) tA fun r39 =>
 .op (a7 ae (.pointer (some ⟨r39.block,r39.off+5,none⟩)) (.slice r38.1 r38.2.1 r38.2.2)) tU fun _ =>
 .out 1 [])) (
 .out 0 [])) fun x41 =>
 .op (aa aA #[.pointer (some a0_a0),.string k_rc]) tU fun _ =>
 .ret #[.v (.pointer r2)]
theorem rB (a0_a0:Addr) (a1_a1:Int):cc Tryz.prog Tryz.f183 rt [.pointer (some a0_a0),.int .i64 a1_a1]=ip a0_a0 a1_a1:=by kernel_rfl
theorem rG {ε σ β:Type} {I:aN ε σ} {t:Ty} {s:Sp ε σ β} {Rel:β→t.den→ak→Fact} {Γ:List Fact} (a0_a0:Addr) (a1_a1:Int) (h:Sim Tryz.prog I t Rel noLabel none (ip a0_a0 a1_a1) s [] Γ):MeetsO Tryz.prog I (aa iv #[.pointer (some a0_a0),.int .i64 a1_a1]) t s Rel Γ :=
 aq (args:=[.pointer (some a0_a0),.int .i64 a1_a1]) Tryz.func183 rfl rfl (Nat.le_of_ble_eq_true rfl) (by rw [rB]; exact h)
end
end Go.Proofs.YtjlgcpgjdgeejaaGreatDoor
end

section
namespace Go.Proofs.YtjlgcpgjdgeejaaGreatDoor
open Go
set_option linter.unusedSimpArgs false
set_option linter.unusedVariables false
set_option linter.constructorNameAsVariable false
set_option maxRecDepth 100000
theorem FD (pb:Nat):MeetsO PG (PI pb) (aa cX #[.pointer (some (aR pb))]) tP d4 (fun n x K=>(Fact.prop (n.kids=[])).both (dl n x K)) []:=by
 refine ld (aR pb) ?_
 unfold gm d4
 refine ag (bk pb) (fun _ h=>nomatch h) fun x b=>Sim.prop fun h=>?_
 subst h
 refine gA fun y K=>?_
 exact rZ (t:=tP) K (List.sublist_append_left ..) _ rfl (fun F hF=>⟨rfl,hF _ (List.mem_cons_self ..)⟩)
theorem IN {R:a6} (hR:cJ R) (pb:Nat):Meets PG (PI pb) (aa cH #[.pointer (some (aR pb))]) tP (qt R) NodeF []:=by
 refine yZ (aR pb) ?_
 unfold lJ qt
 (with_reducible repeat (first | refine sA ?_ | refine sB ?_ | refine sC ?_ | refine sD ?_ | refine sE ?_ | refine sF ?_))
 first | refine ag (bk _) (fun _ h=>nomatch h) fun r1 b=>Sim.prop fun h=>?_ | refine af (bk _) (fun _ h=>nomatch h) fun r1 b=>Sim.prop fun h=>?_
 subst h
 refine gA fun r2 Kr2=>?_
 (with_reducible repeat (first | refine sA ?_ | refine sB ?_ | refine sC ?_ | refine sD ?_ | refine sE ?_ | refine sF ?_))
 first | refine ag (aJ _ _) (fun _ h=>nomatch h) fun x b=>?_ | refine af (aJ _ _) (fun _ h=>nomatch h) fun x b=>?_
 refine mr (fun n=>do a8 k_rc; pure n) r2 [] ?_ fun n K=>?_
 ·skip
  refine im (pU R) R.fuel _ (fun _=>rfl) rfl (by have:=hR.fuel; simp [aE,N.kids]; omega) (by repeat (first | exact mz | apply ms)) fun k n K hn=>?_
  (with_reducible repeat (first | refine sA ?_ | refine sB ?_ | refine sC ?_ | refine sD ?_ | refine sE ?_ | refine sF ?_))
  first | refine ag (cr _ _) (fun _ h=>nomatch h) fun r5 b=>Sim.prop fun h=>?_ | refine af (cr _ _) (fun _ h=>nomatch h) fun r5 b=>Sim.prop fun h=>?_
  subst h
  (with_reducible repeat (first | refine sA ?_ | refine sB ?_ | refine sC ?_ | refine sD ?_ | refine sE ?_ | refine sF ?_))
  (first | refine qA (fun h=>?_) fun h=>?_ | refine qB (fun h=>?_) fun h=>?_ | refine qC (fun h=>?_) fun h=>?_ | refine qD (fun h=>?_) fun h=>?_ | refine qE (fun h=>?_) fun h=>?_) -- (!r5)
  ·skip
   refine gr (by repeat (first | exact mz | apply ms)) fun b sl ps K2 hx hb=>?_
   (with_reducible repeat (first | refine sA ?_ | refine sB ?_ | refine sC ?_ | refine sD ?_ | refine sE ?_ | refine sF ?_))
   first | refine ef (hR.statement _) (fun _ h=>nomatch h) fun r8 nr8=>?_ | refine iN (hR.statement _) (fun _ h=>nomatch h) fun r8 nr8=>?_
   subst hx
   refine gD hb (by repeat (first | exact mz | apply ms)) (by repeat (first | exact mz | apply ms)) (by omega) fun K=>?_
   (first | refine kh _ rfl (by simp [N.push_len] at hn ⊢; omega) (by repeat (first | exact mz | apply ms)) | refine kb _ (by decide) rfl (by simp [N.push_len] at hn ⊢; omega) (by repeat (first | exact mz | apply ms)))
  ·skip
   exact gu _ rfl rfl (by repeat (first | exact mz | apply ms))
 ·skip
  (with_reducible repeat (first | refine sA ?_ | refine sB ?_ | refine sC ?_ | refine sD ?_ | refine sE ?_ | refine sF ?_))
  first | refine ag (aJ _ _) (fun _ h=>nomatch h) fun x b=>?_ | refine af (aJ _ _) (fun _ h=>nomatch h) fun x b=>?_
  refine dC (n:=_) (x:=r2) (by repeat (first | exact mz | apply ms)) ?_
  (with_reducible repeat (first | refine sA ?_ | refine sB ?_ | refine sC ?_ | refine sD ?_ | refine sE ?_ | refine sF ?_))
  exact av (t:=tP) _ rfl (fun F hF=>hF _ (by repeat (first | exact mz | apply ms)))
theorem te {R:a6} (hR:cJ R) (pb:Nat):Meets PG (PI pb) (aa ji #[.pointer (some (aR pb))]) tP (oU R) NodeF []:=by
 refine xm (aR pb) ?_
 unfold lj oU
 (with_reducible repeat (first | refine sA ?_ | refine sB ?_ | refine sC ?_ | refine sD ?_ | refine sE ?_ | refine sF ?_))
 first | refine ag (aJ _ _) (fun _ h=>nomatch h) fun x b=>?_ | refine af (aJ _ _) (fun _ h=>nomatch h) fun x b=>?_
 (with_reducible repeat (first | refine sA ?_ | refine sB ?_ | refine sC ?_ | refine sD ?_ | refine sE ?_ | refine sF ?_))
 first | refine ag (hR.expr _) (fun _ h=>nomatch h) fun r2 nr2=>?_ | refine af (hR.expr _) (fun _ h=>nomatch h) fun r2 nr2=>?_
 (with_reducible repeat (first | refine sA ?_ | refine sB ?_ | refine sC ?_ | refine sD ?_ | refine sE ?_ | refine sF ?_))
 first | refine ag (aJ _ _) (fun _ h=>nomatch h) fun x b=>?_ | refine af (aJ _ _) (fun _ h=>nomatch h) fun x b=>?_
 (with_reducible repeat (first | refine sA ?_ | refine sB ?_ | refine sC ?_ | refine sD ?_ | refine sE ?_ | refine sF ?_))
 exact av (t:=tP) _ rfl (fun F hF=>hF _ (by repeat (first | exact mz | apply ms)))
theorem nQ {R:a6} (hR:cJ R) (pb:Nat) (kind:Int) (pos:Int) (may:Bool):Meets PG (PI pb) (aa gi #[.pointer (some (aR pb)),.int .i64 kind,.int .i64 pos,.bool may]) tP (mh R kind pos may) NodeF []:=by
 refine xv (aR pb) kind pos may ?_
 unfold ln mh
 (with_reducible repeat (first | refine sA ?_ | refine sB ?_ | refine sC ?_ | refine sD ?_ | refine sE ?_ | refine sF ?_))
 first | refine ag (dN _) (fun _ h=>nomatch h) fun r1 nr1=>?_ | refine af (dN _) (fun _ h=>nomatch h) fun r1 nr1=>?_
 first | refine dg ?_ fun x3=>?_ | refine dU ?_ fun x3=>?_
 ·skip
  (with_reducible repeat (first | refine sA ?_ | refine sB ?_ | refine sC ?_ | refine sD ?_ | refine sE ?_ | refine sF ?_))
  (first | refine qA (fun h=>?_) fun h=>?_ | refine qB (fun h=>?_) fun h=>?_ | refine qC (fun h=>?_) fun h=>?_ | refine qD (fun h=>?_) fun h=>?_ | refine qE (fun h=>?_) fun h=>?_) -- (!a3_may)
  ·skip
   exact ba _ rfl (by first | rfl | (simp only [Tok.kind] at *; simp_all))
  ·skip
   (with_reducible repeat (first | refine sA ?_ | refine sB ?_ | refine sC ?_ | refine sD ?_ | refine sE ?_ | refine sF ?_))
   first | refine ag (cr _ _) (fun _ h=>nomatch h) fun r2 b=>Sim.prop fun h=>?_ | refine af (cr _ _) (fun _ h=>nomatch h) fun r2 b=>Sim.prop fun h=>?_
   subst h
   exact ba _ rfl (by first | rfl | (simp only [Tok.kind] at *; simp_all))
 ·skip
  (with_reducible repeat (first | refine sA ?_ | refine sB ?_ | refine sC ?_ | refine sD ?_ | refine sE ?_ | refine sF ?_))
  (first | refine qA (fun h=>?_) fun h=>?_ | refine qB (fun h=>?_) fun h=>?_ | refine qC (fun h=>?_) fun h=>?_ | refine qD (fun h=>?_) fun h=>?_ | refine qE (fun h=>?_) fun h=>?_) -- x3.1
  ·skip
   (with_reducible repeat (first | refine sA ?_ | refine sB ?_ | refine sC ?_ | refine sD ?_ | refine sE ?_ | refine sF ?_))
   first | refine ag (hR.expr _) (fun _ h=>nomatch h) fun r4 nr4=>?_ | refine af (hR.expr _) (fun _ h=>nomatch h) fun r4 nr4=>?_
   (with_reducible repeat (first | refine sA ?_ | refine sB ?_ | refine sC ?_ | refine sD ?_ | refine sE ?_ | refine sF ?_))
   first | refine ag (aJ _ _) (fun _ h=>nomatch h) fun x b=>?_ | refine af (aJ _ _) (fun _ h=>nomatch h) fun x b=>?_
   refine ca [r4] [nr4] rfl (by decide) (by decide) (by kernel_rfl) (fun F hF=>(.cons _ _ _ _ (hF (NodeF nr4 r4) (by repeat (first | exact mz | apply ms))) .nil)) fun r7=>?_
   (with_reducible repeat (first | refine sA ?_ | refine sB ?_ | refine sC ?_ | refine sD ?_ | refine sE ?_ | refine sF ?_))
   exact av (t:=tP) _ rfl (fun F hF=>hF _ (by repeat (first | exact mz | apply ms)))
  ·skip
   (with_reducible repeat (first | refine sA ?_ | refine sB ?_ | refine sC ?_ | refine sD ?_ | refine sE ?_ | refine sF ?_))
   first | refine ag (aJ _ _) (fun _ h=>nomatch h) fun x b=>?_ | refine af (aJ _ _) (fun _ h=>nomatch h) fun x b=>?_
   refine ca [r1] [nr1] rfl (by decide) (by decide) (by kernel_rfl) (fun F hF=>(.cons _ _ _ _ (hF (NodeF nr1 r1) (by repeat (first | exact mz | apply ms))) .nil)) fun r10=>?_
   (with_reducible repeat (first | refine sA ?_ | refine sB ?_ | refine sC ?_ | refine sD ?_ | refine sE ?_ | refine sF ?_))
   exact av (t:=tP) _ rfl (fun F hF=>hF _ (by repeat (first | exact mz | apply ms)))
theorem iS {R:a6} (hR:cJ R) (pb:Nat) (n:Int) (pos:Int):Meets PG (PI pb) (aa eL #[.pointer (some (aR pb)),.int .i64 n,.int .i64 pos]) tP (eA R n pos) NodeF []:=by
 refine tC (aR pb) n pos ?_
 unfold jt eA
 (with_reducible repeat (first | refine sA ?_ | refine sB ?_ | refine sC ?_ | refine sD ?_ | refine sE ?_ | refine sF ?_))
 first | refine ag (ch _) (fun _ h=>nomatch h) fun r1 b=>Sim.prop fun h=>?_ | refine af (ch _) (fun _ h=>nomatch h) fun r1 b=>Sim.prop fun h=>?_
 subst h
 (with_reducible repeat (first | refine sA ?_ | refine sB ?_ | refine sC ?_ | refine sD ?_ | refine sE ?_ | refine sF ?_))
 first | refine ag (fH hR _) (fun _ h=>nomatch h) fun r2 nr2=>?_ | refine af (fH hR _) (fun _ h=>nomatch h) fun r2 nr2=>?_
 (with_reducible repeat (first | refine sA ?_ | refine sB ?_ | refine sC ?_ | refine sD ?_ | refine sE ?_ | refine sF ?_))
 first | refine ag (aJ _ _) (fun _ h=>nomatch h) fun x b=>?_ | refine af (aJ _ _) (fun _ h=>nomatch h) fun x b=>?_
 (with_reducible repeat (first | refine sA ?_ | refine sB ?_ | refine sC ?_ | refine sD ?_ | refine sE ?_ | refine sF ?_))
 first | refine ag (hR.expr _) (fun _ h=>nomatch h) fun r4 nr4=>?_ | refine af (hR.expr _) (fun _ h=>nomatch h) fun r4 nr4=>?_
 refine ca [r2,r4] [nr2,nr4] rfl (by decide) (by decide) (by kernel_rfl) (fun F hF=>(.cons _ _ _ _ (hF (NodeF nr2 r2) (by repeat (first | exact mz | apply ms))) (.cons _ _ _ _ (hF (NodeF nr4 r4) (by repeat (first | exact mz | apply ms))) .nil))) fun r6=>?_
 (with_reducible repeat (first | refine sA ?_ | refine sB ?_ | refine sC ?_ | refine sD ?_ | refine sE ?_ | refine sF ?_))
 exact av (t:=tP) _ rfl (fun F hF=>hF _ (by repeat (first | exact mz | apply ms)))
theorem nE {R:a6} (hR:cJ R) (pb:Nat) (kind:Int) (pos:Int):Meets PG (PI pb) (aa fY #[.pointer (some (aR pb)),.int .i64 kind,.int .i64 pos]) tP (fC R kind pos) NodeF []:=by
 refine tL (aR pb) kind pos ?_
 unfold jx fC
 (with_reducible repeat (first | refine sA ?_ | refine sB ?_ | refine sC ?_ | refine sD ?_ | refine sE ?_ | refine sF ?_))
 first | refine ag (ch _) (fun _ h=>nomatch h) fun r1 b=>Sim.prop fun h=>?_ | refine af (ch _) (fun _ h=>nomatch h) fun r1 b=>Sim.prop fun h=>?_
 subst h
 (with_reducible repeat (first | refine sA ?_ | refine sB ?_ | refine sC ?_ | refine sD ?_ | refine sE ?_ | refine sF ?_))
 first | refine ag (jF hR _) (fun _ h=>nomatch h) fun r2 nr2=>?_ | refine af (jF hR _) (fun _ h=>nomatch h) fun r2 nr2=>?_
 (with_reducible repeat (first | refine sA ?_ | refine sB ?_ | refine sC ?_ | refine sD ?_ | refine sE ?_ | refine sF ?_))
 first | refine ag (aJ _ _) (fun _ h=>nomatch h) fun x b=>?_ | refine af (aJ _ _) (fun _ h=>nomatch h) fun x b=>?_
 (with_reducible repeat (first | refine sA ?_ | refine sB ?_ | refine sC ?_ | refine sD ?_ | refine sE ?_ | refine sF ?_))
 first | refine ag (fS hR _ _) (fun _ h=>nomatch h) fun r4 nr4=>?_ | refine af (fS hR _ _) (fun _ h=>nomatch h) fun r4 nr4=>?_
 (with_reducible repeat (first | refine sA ?_ | refine sB ?_ | refine sC ?_ | refine sD ?_ | refine sE ?_ | refine sF ?_))
 first | refine ag (aJ _ _) (fun _ h=>nomatch h) fun x b=>?_ | refine af (aJ _ _) (fun _ h=>nomatch h) fun x b=>?_
 (with_reducible repeat (first | refine sA ?_ | refine sB ?_ | refine sC ?_ | refine sD ?_ | refine sE ?_ | refine sF ?_))
 first | refine ag (fH hR _) (fun _ h=>nomatch h) fun r6 nr6=>?_ | refine af (fH hR _) (fun _ h=>nomatch h) fun r6 nr6=>?_
 (with_reducible repeat (first | refine sA ?_ | refine sB ?_ | refine sC ?_ | refine sD ?_ | refine sE ?_ | refine sF ?_))
 first | refine ag (hR.block _) (fun _ h=>nomatch h) fun r7 nr7=>?_ | refine af (hR.block _) (fun _ h=>nomatch h) fun r7 nr7=>?_
 refine ca [r2,r4,r6,r7] [nr2,nr4,nr6,nr7] rfl (by decide) (by decide) (by kernel_rfl) (fun F hF=>(.cons _ _ _ _ (hF (NodeF nr2 r2) (by repeat (first | exact mz | apply ms))) (.cons _ _ _ _ (hF (NodeF nr4 r4) (by repeat (first | exact mz | apply ms))) (.cons _ _ _ _ (hF (NodeF nr6 r6) (by repeat (first | exact mz | apply ms))) (.cons _ _ _ _ (hF (NodeF nr7 r7) (by repeat (first | exact mz | apply ms))) .nil))))) fun r9=>?_
 (with_reducible repeat (first | refine sA ?_ | refine sB ?_ | refine sC ?_ | refine sD ?_ | refine sE ?_ | refine sF ?_))
 exact av (t:=tP) _ rfl (fun F hF=>hF _ (by repeat (first | exact mz | apply ms)))
theorem Iu {R:a6} (hR:cJ R) (pb b:Nat) (e:ByteArray):Meets PG (PI pb) (aa ie #[.string e,.pointer (some (aR b))]) tP (oe R e) NodeF [Fact.at b (ap aD [.pointer (some (aR pb))])]:=by
 refine vY e (aR b) ?_
 unfold k8 oe
 refine aS (b1:=.ptr) _ (by repeat (first | exact mz | apply ms)) (by kernel_rfl) rfl rfl ?_
 (with_reducible repeat (first | refine sA ?_ | refine sB ?_ | refine sC ?_ | refine sD ?_ | refine sE ?_ | refine sF ?_))
 first | refine ag (dN _) (fun _ h=>nomatch h) fun r2 nr2=>?_ | refine af (dN _) (fun _ h=>nomatch h) fun r2 nr2=>?_
 refine aS (b1:=.ptr) _ (by repeat (first | exact mz | apply ms)) (by kernel_rfl) rfl rfl ?_
 (with_reducible repeat (first | refine sA ?_ | refine sB ?_ | refine sC ?_ | refine sD ?_ | refine sE ?_ | refine sF ?_))
 first | refine ag (cr _ _) (fun _ h=>nomatch h) fun r4 b=>Sim.prop fun h=>?_ | refine af (cr _ _) (fun _ h=>nomatch h) fun r4 b=>Sim.prop fun h=>?_
 subst h
 (with_reducible repeat (first | refine sA ?_ | refine sB ?_ | refine sC ?_ | refine sD ?_ | refine sE ?_ | refine sF ?_))
 (first | refine qA (fun h=>?_) fun h=>?_ | refine qB (fun h=>?_) fun h=>?_ | refine qC (fun h=>?_) fun h=>?_ | refine qD (fun h=>?_) fun h=>?_ | refine qE (fun h=>?_) fun h=>?_) -- (!r4)
 ·skip
  refine aS (b1:=.ptr) _ (by repeat (first | exact mz | apply ms)) (by kernel_rfl) rfl rfl ?_
  (with_reducible repeat (first | refine sA ?_ | refine sB ?_ | refine sC ?_ | refine sD ?_ | refine sE ?_ | refine sF ?_))
  first | refine ag (hR.expr _) (fun _ h=>nomatch h) fun r6 nr6=>?_ | refine af (hR.expr _) (fun _ h=>nomatch h) fun r6 nr6=>?_
  refine aS (b1:=.ptr) _ (by repeat (first | exact mz | apply ms)) (by kernel_rfl) rfl rfl ?_
  (with_reducible repeat (first | refine sA ?_ | refine sB ?_ | refine sC ?_ | refine sD ?_ | refine sE ?_ | refine sF ?_))
  first | refine ag (aJ _ _) (fun _ h=>nomatch h) fun x b=>?_ | refine af (aJ _ _) (fun _ h=>nomatch h) fun x b=>?_
  (with_reducible repeat (first | refine sA ?_ | refine sB ?_ | refine sC ?_ | refine sD ?_ | refine sE ?_ | refine sF ?_))
  exact av (t:=tP) _ rfl (fun F hF=>hF _ (by repeat (first | exact mz | apply ms)))
 ·skip
  refine aS (b1:=.ptr) _ (by repeat (first | exact mz | apply ms)) (by kernel_rfl) rfl rfl ?_
  (with_reducible repeat (first | refine sA ?_ | refine sB ?_ | refine sC ?_ | refine sD ?_ | refine sE ?_ | refine sF ?_))
  first | refine ag (aJ _ _) (fun _ h=>nomatch h) fun x b=>?_ | refine af (aJ _ _) (fun _ h=>nomatch h) fun x b=>?_
  (with_reducible repeat (first | refine sA ?_ | refine sB ?_ | refine sC ?_ | refine sD ?_ | refine sE ?_ | refine sF ?_))
  exact av (t:=tP) _ rfl (fun F hF=>hF _ (by repeat (first | exact mz | apply ms)))
theorem FK {R:a6} (hR:cJ R) (pb:Nat) (a1:Int):Meets PG (PI pb) (aa nl #[.pointer (some (aR pb)),.int .i64 a1]) tP (sU R a1) NodeF []:=by
 refine AE (aR pb) a1 ?_
 unfold nc sU
 refine jP fun br1=>?_
 refine aS (b1:=.ptr) _ (by repeat (first | exact mz | apply ms)) (by kernel_rfl) rfl rfl ?_
 (with_reducible repeat (first | refine sA ?_ | refine sB ?_ | refine sC ?_ | refine sD ?_ | refine sE ?_ | refine sF ?_))
 first | refine ag (aJ _ _) (fun _ h=>nomatch h) fun x b=>?_ | refine af (aJ _ _) (fun _ h=>nomatch h) fun x b=>?_
 first | refine dg ?_ fun x18=>?_ | refine dU ?_ fun x18=>?_
 ·skip
  refine aS (b1:=.ptr) _ (by repeat (first | exact mz | apply ms)) (by kernel_rfl) rfl rfl ?_
  (with_reducible repeat (first | refine sA ?_ | refine sB ?_ | refine sC ?_ | refine sD ?_ | refine sE ?_ | refine sF ?_))
  first | refine ag (cr _ _) (fun _ h=>nomatch h) fun r5 b=>Sim.prop fun h=>?_ | refine af (cr _ _) (fun _ h=>nomatch h) fun r5 b=>Sim.prop fun h=>?_
  subst h
  (with_reducible repeat (first | refine sA ?_ | refine sB ?_ | refine sC ?_ | refine sD ?_ | refine sE ?_ | refine sF ?_))
  (first | refine qA (fun h=>?_) fun h=>?_ | refine qB (fun h=>?_) fun h=>?_ | refine qC (fun h=>?_) fun h=>?_ | refine qD (fun h=>?_) fun h=>?_ | refine qE (fun h=>?_) fun h=>?_) -- r5
  ·skip
   refine aS (b1:=.ptr) _ (by repeat (first | exact mz | apply ms)) (by kernel_rfl) rfl rfl ?_
   (with_reducible repeat (first | refine sA ?_ | refine sB ?_ | refine sC ?_ | refine sD ?_ | refine sE ?_ | refine sF ?_))
   first | refine ag (eM _ _ (by decide) (by decide)) (fun _ h=>nomatch h) fun r7 b=>Sim.prop fun h=>?_ | refine af (eM _ _ (by decide) (by decide)) (fun _ h=>nomatch h) fun r7 b=>Sim.prop fun h=>?_
   subst h
   (with_reducible repeat (first | refine sA ?_ | refine sB ?_ | refine sC ?_ | refine sD ?_ | refine sE ?_ | refine sF ?_))
   (first | refine qA (fun h=>?_) fun h=>?_ | refine qB (fun h=>?_) fun h=>?_ | refine qC (fun h=>?_) fun h=>?_ | refine qD (fun h=>?_) fun h=>?_ | refine qE (fun h=>?_) fun h=>?_) -- ((r7.1:Int)==1)
   ·skip
    refine aS (b1:=.ptr) _ (by repeat (first | exact mz | apply ms)) (by kernel_rfl) rfl rfl ?_
    (with_reducible repeat (first | refine sA ?_ | refine sB ?_ | refine sC ?_ | refine sD ?_ | refine sE ?_ | refine sF ?_))
    first | refine ag (eM _ _ (by decide) (by decide)) (fun _ h=>nomatch h) fun r9 b=>Sim.prop fun h=>?_ | refine af (eM _ _ (by decide) (by decide)) (fun _ h=>nomatch h) fun r9 b=>Sim.prop fun h=>?_
    subst h
    refine fA (jD _ _ _) (fun _ h=>nomatch h) ?_
    exact ba _ rfl (by first | rfl | (simp only [Tok.kind] at *; simp_all))
   ·skip
    exact ba _ rfl (by first | rfl | (simp only [Tok.kind] at *; simp_all))
  ·skip
   refine aS (b1:=.ptr) _ (by repeat (first | exact mz | apply ms)) (by kernel_rfl) rfl rfl ?_
   (with_reducible repeat (first | refine sA ?_ | refine sB ?_ | refine sC ?_ | refine sD ?_ | refine sE ?_ | refine sF ?_))
   first | refine ag (cr _ _) (fun _ h=>nomatch h) fun r12 b=>Sim.prop fun h=>?_ | refine af (cr _ _) (fun _ h=>nomatch h) fun r12 b=>Sim.prop fun h=>?_
   subst h
   (with_reducible repeat (first | refine sA ?_ | refine sB ?_ | refine sC ?_ | refine sD ?_ | refine sE ?_ | refine sF ?_))
   (first | refine qA (fun h=>?_) fun h=>?_ | refine qB (fun h=>?_) fun h=>?_ | refine qC (fun h=>?_) fun h=>?_ | refine qD (fun h=>?_) fun h=>?_ | refine qE (fun h=>?_) fun h=>?_) -- r12
   ·skip
    refine aS (b1:=.ptr) _ (by repeat (first | exact mz | apply ms)) (by kernel_rfl) rfl rfl ?_
    (with_reducible repeat (first | refine sA ?_ | refine sB ?_ | refine sC ?_ | refine sD ?_ | refine sE ?_ | refine sF ?_))
    first | refine ag (eM _ _ (by decide) (by decide)) (fun _ h=>nomatch h) fun r14 b=>Sim.prop fun h=>?_ | refine af (eM _ _ (by decide) (by decide)) (fun _ h=>nomatch h) fun r14 b=>Sim.prop fun h=>?_
    subst h
    (with_reducible repeat (first | refine sA ?_ | refine sB ?_ | refine sC ?_ | refine sD ?_ | refine sE ?_ | refine sF ?_))
    (first | refine qA (fun h=>?_) fun h=>?_ | refine qB (fun h=>?_) fun h=>?_ | refine qC (fun h=>?_) fun h=>?_ | refine qD (fun h=>?_) fun h=>?_ | refine qE (fun h=>?_) fun h=>?_) -- ((r14.1:Int)==1)
    ·skip
     refine aS (b1:=.ptr) _ (by repeat (first | exact mz | apply ms)) (by kernel_rfl) rfl rfl ?_
     (with_reducible repeat (first | refine sA ?_ | refine sB ?_ | refine sC ?_ | refine sD ?_ | refine sE ?_ | refine sF ?_))
     first | refine ag (eM _ _ (by decide) (by decide)) (fun _ h=>nomatch h) fun r16 b=>Sim.prop fun h=>?_ | refine af (eM _ _ (by decide) (by decide)) (fun _ h=>nomatch h) fun r16 b=>Sim.prop fun h=>?_
     subst h
     refine fA (jD _ _ _) (fun _ h=>nomatch h) ?_
     exact ba _ rfl (by first | rfl | (simp only [Tok.kind] at *; simp_all))
    ·skip
     exact ba _ rfl (by first | rfl | (simp only [Tok.kind] at *; simp_all))
   ·skip
    exact ba _ rfl (by first | rfl | (simp only [Tok.kind] at *; simp_all))
 ·skip
  (with_reducible repeat (first | refine sA ?_ | refine sB ?_ | refine sC ?_ | refine sD ?_ | refine sE ?_ | refine sF ?_))
  (first | refine qA (fun h=>?_) fun h=>?_ | refine qB (fun h=>?_) fun h=>?_ | refine qC (fun h=>?_) fun h=>?_ | refine qD (fun h=>?_) fun h=>?_ | refine qE (fun h=>?_) fun h=>?_) -- x18.1
  ·skip
   refine aS (b1:=.ptr) _ (by repeat (first | exact mz | apply ms)) (by kernel_rfl) rfl rfl ?_
   (with_reducible repeat (first | refine sA ?_ | refine sB ?_ | refine sC ?_ | refine sD ?_ | refine sE ?_ | refine sF ?_))
   first | refine ag (dx _) (fun _ h=>nomatch h) fun r20 b=>Sim.prop fun h=>?_ | refine af (dx _) (fun _ h=>nomatch h) fun r20 b=>Sim.prop fun h=>?_
   subst h
   refine jh ?_ fun x21=>?_
   ·skip
    (with_reducible repeat (first | refine sA ?_ | refine sB ?_ | refine sC ?_ | refine sD ?_ | refine sE ?_ | refine sF ?_))
    (first | refine qA (fun h=>?_) fun h=>?_ | refine qB (fun h=>?_) fun h=>?_ | refine qC (fun h=>?_) fun h=>?_ | refine qD (fun h=>?_) fun h=>?_ | refine qE (fun h=>?_) fun h=>?_) -- (r20.2.1.toList==kconst.toList)
    ·skip
     exact d9 _ rfl rfl
    ·skip
     exact d9 _ rfl rfl
   ·skip
    refine aS (b1:=.ptr) _ (by repeat (first | exact mz | apply ms)) (by kernel_rfl) rfl rfl ?_
    (with_reducible repeat (first | refine sA ?_ | refine sB ?_ | refine sC ?_ | refine sD ?_ | refine sE ?_ | refine sF ?_))
    first | refine ag (ch _) (fun _ h=>nomatch h) fun r23 b=>Sim.prop fun h=>?_ | refine af (ch _) (fun _ h=>nomatch h) fun r23 b=>Sim.prop fun h=>?_
    subst h
    refine aS (b1:=.ptr) _ (by repeat (first | exact mz | apply ms)) (by kernel_rfl) rfl rfl ?_
    (with_reducible repeat (first | refine sA ?_ | refine sB ?_ | refine sC ?_ | refine sD ?_ | refine sE ?_ | refine sF ?_))
    first | refine ag (aJ _ _) (fun _ h=>nomatch h) fun x b=>?_ | refine af (aJ _ _) (fun _ h=>nomatch h) fun x b=>?_
    refine aS (b1:=.ptr) _ (by repeat (first | exact mz | apply ms)) (by kernel_rfl) rfl rfl ?_
    (with_reducible repeat (first | refine sA ?_ | refine sB ?_ | refine sC ?_ | refine sD ?_ | refine sE ?_ | refine sF ?_))
    first | refine ag (hR.expr _) (fun _ h=>nomatch h) fun r27 nr27=>?_ | refine af (hR.expr _) (fun _ h=>nomatch h) fun r27 nr27=>?_
    refine aS (b1:=.ptr) _ (by repeat (first | exact mz | apply ms)) (by kernel_rfl) rfl rfl ?_
    (with_reducible repeat (first | refine sA ?_ | refine sB ?_ | refine sC ?_ | refine sD ?_ | refine sE ?_ | refine sF ?_))
    first | refine ag (aJ _ _) (fun _ h=>nomatch h) fun x b=>?_ | refine af (aJ _ _) (fun _ h=>nomatch h) fun x b=>?_
    refine aS (b1:=.ptr) _ (by repeat (first | exact mz | apply ms)) (by kernel_rfl) rfl rfl ?_
    (with_reducible repeat (first | refine sA ?_ | refine sB ?_ | refine sC ?_ | refine sD ?_ | refine sE ?_ | refine sF ?_))
    first | refine ag (hR.block _) (fun _ h=>nomatch h) fun r31 nr31=>?_ | refine af (hR.block _) (fun _ h=>nomatch h) fun r31 nr31=>?_
    refine ca [r27,r31] [nr27,nr31] rfl (by decide) (by decide) (by kernel_rfl) (fun F hF=>(.cons _ _ _ _ (hF (NodeF nr27 r27) (by repeat (first | exact mz | apply ms))) (.cons _ _ _ _ (hF (NodeF nr31 r31) (by repeat (first | exact mz | apply ms))) .nil))) fun r33=>?_
    (with_reducible repeat (first | refine sA ?_ | refine sB ?_ | refine sC ?_ | refine sD ?_ | refine sE ?_ | refine sF ?_))
    exact av (t:=tP) _ rfl (fun F hF=>hF _ (by repeat (first | exact mz | apply ms)))
  ·skip
   refine aS (b1:=.ptr) _ (by repeat (first | exact mz | apply ms)) (by kernel_rfl) rfl rfl ?_
   (with_reducible repeat (first | refine sA ?_ | refine sB ?_ | refine sC ?_ | refine sD ?_ | refine sE ?_ | refine sF ?_))
   first | refine ag (dN _) (fun _ h=>nomatch h) fun r35 nr35=>?_ | refine af (dN _) (fun _ h=>nomatch h) fun r35 nr35=>?_
   refine aS (b1:=.ptr) _ (by repeat (first | exact mz | apply ms)) (by kernel_rfl) rfl rfl ?_
   (with_reducible repeat (first | refine sA ?_ | refine sB ?_ | refine sC ?_ | refine sD ?_ | refine sE ?_ | refine sF ?_))
   first | refine ag (bk _) (fun _ h=>nomatch h) fun r37 b=>Sim.prop fun h=>?_ | refine af (bk _) (fun _ h=>nomatch h) fun r37 b=>Sim.prop fun h=>?_
   subst h
   refine aS (b1:=.ptr) _ (by repeat (first | exact mz | apply ms)) (by kernel_rfl) rfl rfl ?_
   (with_reducible repeat (first | refine sA ?_ | refine sB ?_ | refine sC ?_ | refine sD ?_ | refine sE ?_ | refine sF ?_))
   first | refine ag (az _ _) (fun _ h=>nomatch h) fun r39 b=>Sim.prop fun h=>?_ | refine af (az _ _) (fun _ h=>nomatch h) fun r39 b=>Sim.prop fun h=>?_
   subst h
   refine gz NodeF ?_ fun nx42 x42=>?_
   ·skip
    (with_reducible repeat (first | refine sA ?_ | refine sB ?_ | refine sC ?_ | refine sD ?_ | refine sE ?_ | refine sF ?_))
    (first | refine qA (fun h=>?_) fun h=>?_ | refine qB (fun h=>?_) fun h=>?_ | refine qC (fun h=>?_) fun h=>?_ | refine qD (fun h=>?_) fun h=>?_ | refine qE (fun h=>?_) fun h=>?_) -- r39
    ·skip
     refine aS (b1:=.ptr) _ (by repeat (first | exact mz | apply ms)) (by kernel_rfl) rfl rfl ?_
     (with_reducible repeat (first | refine sA ?_ | refine sB ?_ | refine sC ?_ | refine sD ?_ | refine sE ?_ | refine sF ?_))
     first | refine ag (iS hR _ _ _) (fun _ h=>nomatch h) fun r41 nr41=>?_ | refine af (iS hR _ _ _) (fun _ h=>nomatch h) fun r41 nr41=>?_
     exact dY _ rfl rfl (fun F hF=>hF _ (by repeat (first | exact mz | apply ms)))
    ·skip
     exact dY _ rfl rfl (fun F hF=>hF _ (by repeat (first | exact mz | apply ms)))
   ·skip
    refine aS (b1:=.ptr) _ (by repeat (first | exact mz | apply ms)) (by kernel_rfl) rfl rfl ?_
    (with_reducible repeat (first | refine sA ?_ | refine sB ?_ | refine sC ?_ | refine sD ?_ | refine sE ?_ | refine sF ?_))
    first | refine ag (aJ _ _) (fun _ h=>nomatch h) fun x b=>?_ | refine af (aJ _ _) (fun _ h=>nomatch h) fun x b=>?_
    refine ag (MeetsO.congr (wk _ _ _) (Iu hR pb _ cw)) (fun A hA=>by obtain rfl:=List.mem_singleton.1 hA; exact (by repeat (first | exact mz | apply ms))) fun r45 nr45=>?_
    refine ag (MeetsO.congr (wk _ _ _) (Iu hR pb _ k_rp)) (fun A hA=>by obtain rfl:=List.mem_singleton.1 hA; exact (by repeat (first | exact mz | apply ms))) fun r46 nr46=>?_
    refine aS (b1:=.ptr) _ (by repeat (first | exact mz | apply ms)) (by kernel_rfl) rfl rfl ?_
    (with_reducible repeat (first | refine sA ?_ | refine sB ?_ | refine sC ?_ | refine sD ?_ | refine sE ?_ | refine sF ?_))
    first | refine ag (hR.block _) (fun _ h=>nomatch h) fun r48 nr48=>?_ | refine af (hR.block _) (fun _ h=>nomatch h) fun r48 nr48=>?_
    refine ca [x42,r45,r46,r48] [nx42,nr45,nr46,nr48] rfl (by decide) (by decide) (by kernel_rfl) (fun F hF=>(.cons _ _ _ _ (hF (NodeF nx42 x42) (by repeat (first | exact mz | apply ms))) (.cons _ _ _ _ (hF (NodeF nr45 r45) (by repeat (first | exact mz | apply ms))) (.cons _ _ _ _ (hF (NodeF nr46 r46) (by repeat (first | exact mz | apply ms))) (.cons _ _ _ _ (hF (NodeF nr48 r48) (by repeat (first | exact mz | apply ms))) .nil))))) fun r50=>?_
    (with_reducible repeat (first | refine sA ?_ | refine sB ?_ | refine sC ?_ | refine sD ?_ | refine sE ?_ | refine sF ?_))
    exact av (t:=tP) _ rfl (fun F hF=>hF _ (by repeat (first | exact mz | apply ms)))
theorem Ig {R:a6} (hR:cJ R) (pb:Nat) (pos:Int):Meets PG (PI pb) (aa nZ #[.pointer (some (aR pb)),.int .i64 pos]) tP (yp R pos) NodeF []:=by
 refine BE (aR pb) pos ?_
 unfold oC yp
 (with_reducible repeat (first | refine sA ?_ | refine sB ?_ | refine sC ?_ | refine sD ?_ | refine sE ?_ | refine sF ?_))
 first | refine ag (hR.block _) (fun _ h=>nomatch h) fun r1 nr1=>?_ | refine af (hR.block _) (fun _ h=>nomatch h) fun r1 nr1=>?_
 (with_reducible repeat (first | refine sA ?_ | refine sB ?_ | refine sC ?_ | refine sD ?_ | refine sE ?_ | refine sF ?_))
 first | refine ag (dN _) (fun _ h=>nomatch h) fun r2 nr2=>?_ | refine af (dN _) (fun _ h=>nomatch h) fun r2 nr2=>?_
 (with_reducible repeat (first | refine sA ?_ | refine sB ?_ | refine sC ?_ | refine sD ?_ | refine sE ?_ | refine sF ?_))
 first | refine ag (bk _) (fun _ h=>nomatch h) fun r3 b=>Sim.prop fun h=>?_ | refine af (bk _) (fun _ h=>nomatch h) fun r3 b=>Sim.prop fun h=>?_
 subst h
 (with_reducible repeat (first | refine sA ?_ | refine sB ?_ | refine sC ?_ | refine sD ?_ | refine sE ?_ | refine sF ?_))
 first | refine ag (az _ _) (fun _ h=>nomatch h) fun r4 b=>Sim.prop fun h=>?_ | refine af (az _ _) (fun _ h=>nomatch h) fun r4 b=>Sim.prop fun h=>?_
 subst h
 refine gz NodeF ?_ fun nx11 x11=>?_
 ·skip
  (with_reducible repeat (first | refine sA ?_ | refine sB ?_ | refine sC ?_ | refine sD ?_ | refine sE ?_ | refine sF ?_))
  (first | refine qA (fun h=>?_) fun h=>?_ | refine qB (fun h=>?_) fun h=>?_ | refine qC (fun h=>?_) fun h=>?_ | refine qD (fun h=>?_) fun h=>?_ | refine qE (fun h=>?_) fun h=>?_) -- r4
  ·skip
   (with_reducible repeat (first | refine sA ?_ | refine sB ?_ | refine sC ?_ | refine sD ?_ | refine sE ?_ | refine sF ?_))
   first | refine ag (aJ _ _) (fun _ h=>nomatch h) fun x b=>?_ | refine af (aJ _ _) (fun _ h=>nomatch h) fun x b=>?_
   (with_reducible repeat (first | refine sA ?_ | refine sB ?_ | refine sC ?_ | refine sD ?_ | refine sE ?_ | refine sF ?_))
   first | refine ag (ch _) (fun _ h=>nomatch h) fun r6 b=>Sim.prop fun h=>?_ | refine af (ch _) (fun _ h=>nomatch h) fun r6 b=>Sim.prop fun h=>?_
   subst h
   (with_reducible repeat (first | refine sA ?_ | refine sB ?_ | refine sC ?_ | refine sD ?_ | refine sE ?_ | refine sF ?_))
   first | refine ag (aJ _ _) (fun _ h=>nomatch h) fun x b=>?_ | refine af (aJ _ _) (fun _ h=>nomatch h) fun x b=>?_
   (with_reducible repeat (first | refine sA ?_ | refine sB ?_ | refine sC ?_ | refine sD ?_ | refine sE ?_ | refine sF ?_))
   first | refine ag (hR.block _) (fun _ h=>nomatch h) fun r8 nr8=>?_ | refine af (hR.block _) (fun _ h=>nomatch h) fun r8 nr8=>?_
   refine ca [r8] [nr8] rfl (by decide) (by decide) (by kernel_rfl) (fun F hF=>(.cons _ _ _ _ (hF (NodeF nr8 r8) (by repeat (first | exact mz | apply ms))) .nil)) fun r10=>?_
   exact dY _ rfl rfl (fun F hF=>hF _ (by repeat (first | exact mz | apply ms)))
  ·skip
   exact dY _ rfl rfl (fun F hF=>hF _ (by repeat (first | exact mz | apply ms)))
 ·skip
  (with_reducible repeat (first | refine sA ?_ | refine sB ?_ | refine sC ?_ | refine sD ?_ | refine sE ?_ | refine sF ?_))
  first | refine ag (dN _) (fun _ h=>nomatch h) fun r12 nr12=>?_ | refine af (dN _) (fun _ h=>nomatch h) fun r12 nr12=>?_
  (with_reducible repeat (first | refine sA ?_ | refine sB ?_ | refine sC ?_ | refine sD ?_ | refine sE ?_ | refine sF ?_))
  first | refine ag (az _ _) (fun _ h=>nomatch h) fun r13 b=>Sim.prop fun h=>?_ | refine af (az _ _) (fun _ h=>nomatch h) fun r13 b=>Sim.prop fun h=>?_
  subst h
  refine gz NodeF ?_ fun nx15 x15=>?_
  ·skip
   (with_reducible repeat (first | refine sA ?_ | refine sB ?_ | refine sC ?_ | refine sD ?_ | refine sE ?_ | refine sF ?_))
   (first | refine qA (fun h=>?_) fun h=>?_ | refine qB (fun h=>?_) fun h=>?_ | refine qC (fun h=>?_) fun h=>?_ | refine qD (fun h=>?_) fun h=>?_ | refine qE (fun h=>?_) fun h=>?_) -- r13
   ·skip
    (with_reducible repeat (first | refine sA ?_ | refine sB ?_ | refine sC ?_ | refine sD ?_ | refine sE ?_ | refine sF ?_))
    first | refine ag (hR.block _) (fun _ h=>nomatch h) fun r14 nr14=>?_ | refine af (hR.block _) (fun _ h=>nomatch h) fun r14 nr14=>?_
    exact dY _ rfl rfl (fun F hF=>hF _ (by repeat (first | exact mz | apply ms)))
   ·skip
    exact dY _ rfl rfl (fun F hF=>hF _ (by repeat (first | exact mz | apply ms)))
  ·skip
   first | refine dg ?_ fun x20=>?_ | refine dU ?_ fun x20=>?_
   ·skip
    refine jY (by repeat (first | exact mz | apply ms)) ?_
    (with_reducible repeat (first | refine sA ?_ | refine sB ?_ | refine sC ?_ | refine sD ?_ | refine sE ?_ | refine sF ?_))
    refine qE (fun hy=>?_) (fun hy=>?_)
    ·skip
     refine jY (by repeat (first | exact mz | apply ms)) ?_
     exact ba _ rfl (by show cond (_&&_) _ _=_; rw [show (N.kind _==1)=true from hy]; rfl)
    ·skip
     exact ba _ rfl (by show cond (_&&_) _ _=_; rw [show (N.kind _==1)=false from hy]; rfl)
   ·skip
    (with_reducible repeat (first | refine sA ?_ | refine sB ?_ | refine sC ?_ | refine sD ?_ | refine sE ?_ | refine sF ?_))
    (first | refine qA (fun h=>?_) fun h=>?_ | refine qB (fun h=>?_) fun h=>?_ | refine qC (fun h=>?_) fun h=>?_ | refine qD (fun h=>?_) fun h=>?_ | refine qE (fun h=>?_) fun h=>?_) -- x20.1
    ·skip
     exact ej (β1:=Unit) (Rel1:=fun _ _ _=>Fact.prop True) (gl _) (fun _ h=>nomatch h) (by first | exact eh | exact ez _)
    ·skip
     refine ca [r1,x11,x15] [nr1,nx11,nx15] rfl (by decide) (by decide) (by kernel_rfl) (fun F hF=>(.cons _ _ _ _ (hF (NodeF nr1 r1) (by repeat (first | exact mz | apply ms))) (.cons _ _ _ _ (hF (NodeF nx11 x11) (by repeat (first | exact mz | apply ms))) (.cons _ _ _ _ (hF (NodeF nx15 x15) (by repeat (first | exact mz | apply ms))) .nil)))) fun r25=>?_
     (with_reducible repeat (first | refine sA ?_ | refine sB ?_ | refine sC ?_ | refine sD ?_ | refine sE ?_ | refine sF ?_))
     exact av (t:=tP) _ rfl (fun F hF=>hF _ (by repeat (first | exact mz | apply ms)))
theorem uQ {R:a6} (hR:cJ R) (pb:Nat):Meets PG (PI pb) (aa fE #[.pointer (some (aR pb))]) tP (lD R) NodeF []:=by
 refine wY (aR pb) ?_
 unfold kt lD
 (with_reducible repeat (first | refine sA ?_ | refine sB ?_ | refine sC ?_ | refine sD ?_ | refine sE ?_ | refine sF ?_))
 first | refine ag (bk _) (fun _ h=>nomatch h) fun r1 b=>Sim.prop fun h=>?_ | refine af (bk _) (fun _ h=>nomatch h) fun r1 b=>Sim.prop fun h=>?_
 subst h
 (with_reducible repeat (first | refine sA ?_ | refine sB ?_ | refine sC ?_ | refine sD ?_ | refine sE ?_ | refine sF ?_))
 first | refine ag (aJ _ _) (fun _ h=>nomatch h) fun x b=>?_ | refine af (aJ _ _) (fun _ h=>nomatch h) fun x b=>?_
 (with_reducible repeat (first | refine sA ?_ | refine sB ?_ | refine sC ?_ | refine sD ?_ | refine sE ?_ | refine sF ?_))
 first | refine ag (te hR _) (fun _ h=>nomatch h) fun r3 nr3=>?_ | refine af (te hR _) (fun _ h=>nomatch h) fun r3 nr3=>?_
 (with_reducible repeat (first | refine sA ?_ | refine sB ?_ | refine sC ?_ | refine sD ?_ | refine sE ?_ | refine sF ?_))
 first | refine ag (hR.block _) (fun _ h=>nomatch h) fun r4 nr4=>?_ | refine af (hR.block _) (fun _ h=>nomatch h) fun r4 nr4=>?_
 (with_reducible repeat (first | refine sA ?_ | refine sB ?_ | refine sC ?_ | refine sD ?_ | refine sE ?_ | refine sF ?_))
 first | refine ag (dN _) (fun _ h=>nomatch h) fun r5 nr5=>?_ | refine af (dN _) (fun _ h=>nomatch h) fun r5 nr5=>?_
 (with_reducible repeat (first | refine sA ?_ | refine sB ?_ | refine sC ?_ | refine sD ?_ | refine sE ?_ | refine sF ?_))
 first | refine ag (az _ _) (fun _ h=>nomatch h) fun r6 b=>Sim.prop fun h=>?_ | refine af (az _ _) (fun _ h=>nomatch h) fun r6 b=>Sim.prop fun h=>?_
 subst h
 (with_reducible repeat (first | refine sA ?_ | refine sB ?_ | refine sC ?_ | refine sD ?_ | refine sE ?_ | refine sF ?_))
 (first | refine qA (fun h=>?_) fun h=>?_ | refine qB (fun h=>?_) fun h=>?_ | refine qC (fun h=>?_) fun h=>?_ | refine qD (fun h=>?_) fun h=>?_ | refine qE (fun h=>?_) fun h=>?_) -- r6
 ·skip
  (with_reducible repeat (first | refine sA ?_ | refine sB ?_ | refine sC ?_ | refine sD ?_ | refine sE ?_ | refine sF ?_))
  first | refine ag (cr _ _) (fun _ h=>nomatch h) fun r7 b=>Sim.prop fun h=>?_ | refine af (cr _ _) (fun _ h=>nomatch h) fun r7 b=>Sim.prop fun h=>?_
  subst h
  (with_reducible repeat (first | refine sA ?_ | refine sB ?_ | refine sC ?_ | refine sD ?_ | refine sE ?_ | refine sF ?_))
  (first | refine qA (fun h=>?_) fun h=>?_ | refine qB (fun h=>?_) fun h=>?_ | refine qC (fun h=>?_) fun h=>?_ | refine qD (fun h=>?_) fun h=>?_ | refine qE (fun h=>?_) fun h=>?_) -- r7
  ·skip
   (with_reducible repeat (first | refine sA ?_ | refine sB ?_ | refine sC ?_ | refine sD ?_ | refine sE ?_ | refine sF ?_))
   first | refine ag (hR.branch _) (fun _ h=>nomatch h) fun r8 nr8=>?_ | refine af (hR.branch _) (fun _ h=>nomatch h) fun r8 nr8=>?_
   refine ca [r3,r4,r8] [nr3,nr4,nr8] rfl (by decide) (by decide) (by kernel_rfl) (fun F hF=>(.cons _ _ _ _ (hF (NodeF nr3 r3) (by repeat (first | exact mz | apply ms))) (.cons _ _ _ _ (hF (NodeF nr4 r4) (by repeat (first | exact mz | apply ms))) (.cons _ _ _ _ (hF (NodeF nr8 r8) (by repeat (first | exact mz | apply ms))) .nil)))) fun r10=>?_
   (with_reducible repeat (first | refine sA ?_ | refine sB ?_ | refine sC ?_ | refine sD ?_ | refine sE ?_ | refine sF ?_))
   exact av (t:=tP) _ rfl (fun F hF=>hF _ (by repeat (first | exact mz | apply ms)))
  ·skip
   (with_reducible repeat (first | refine sA ?_ | refine sB ?_ | refine sC ?_ | refine sD ?_ | refine sE ?_ | refine sF ?_))
   first | refine ag (hR.block _) (fun _ h=>nomatch h) fun r11 nr11=>?_ | refine af (hR.block _) (fun _ h=>nomatch h) fun r11 nr11=>?_
   refine ca [r3,r4,r11] [nr3,nr4,nr11] rfl (by decide) (by decide) (by kernel_rfl) (fun F hF=>(.cons _ _ _ _ (hF (NodeF nr3 r3) (by repeat (first | exact mz | apply ms))) (.cons _ _ _ _ (hF (NodeF nr4 r4) (by repeat (first | exact mz | apply ms))) (.cons _ _ _ _ (hF (NodeF nr11 r11) (by repeat (first | exact mz | apply ms))) .nil)))) fun r13=>?_
   (with_reducible repeat (first | refine sA ?_ | refine sB ?_ | refine sC ?_ | refine sD ?_ | refine sE ?_ | refine sF ?_))
   exact av (t:=tP) _ rfl (fun F hF=>hF _ (by repeat (first | exact mz | apply ms)))
 ·skip
  refine ca [r3,r4,r5] [nr3,nr4,nr5] rfl (by decide) (by decide) (by kernel_rfl) (fun F hF=>(.cons _ _ _ _ (hF (NodeF nr3 r3) (by repeat (first | exact mz | apply ms))) (.cons _ _ _ _ (hF (NodeF nr4 r4) (by repeat (first | exact mz | apply ms))) (.cons _ _ _ _ (hF (NodeF nr5 r5) (by repeat (first | exact mz | apply ms))) .nil)))) fun r15=>?_
  (with_reducible repeat (first | refine sA ?_ | refine sB ?_ | refine sC ?_ | refine sD ?_ | refine sE ?_ | refine sF ?_))
  exact av (t:=tP) _ rfl (fun F hF=>hF _ (by repeat (first | exact mz | apply ms)))
theorem Kn {R:a6} (hR:cJ R) (pb:Nat):Meets PG (PI pb) (aa mI #[.pointer (some (aR pb))]) tP (tj R) NodeF []:=by
 refine AB (aR pb) ?_
 unfold nn tj
 (with_reducible repeat (first | refine sA ?_ | refine sB ?_ | refine sC ?_ | refine sD ?_ | refine sE ?_ | refine sF ?_))
 first | refine ag (bk _) (fun _ h=>nomatch h) fun r1 b=>Sim.prop fun h=>?_ | refine af (bk _) (fun _ h=>nomatch h) fun r1 b=>Sim.prop fun h=>?_
 subst h
 (with_reducible repeat (first | refine sA ?_ | refine sB ?_ | refine sC ?_ | refine sD ?_ | refine sE ?_ | refine sF ?_))
 first | refine ag (az _ _) (fun _ h=>nomatch h) fun r2 b=>Sim.prop fun h=>?_ | refine af (az _ _) (fun _ h=>nomatch h) fun r2 b=>Sim.prop fun h=>?_
 subst h
 (with_reducible repeat (first | refine sA ?_ | refine sB ?_ | refine sC ?_ | refine sD ?_ | refine sE ?_ | refine sF ?_))
 (first | refine qA (fun h=>?_) fun h=>?_ | refine qB (fun h=>?_) fun h=>?_ | refine qC (fun h=>?_) fun h=>?_ | refine qD (fun h=>?_) fun h=>?_ | refine qE (fun h=>?_) fun h=>?_) -- r2
 ·skip
  (with_reducible repeat (first | refine sA ?_ | refine sB ?_ | refine sC ?_ | refine sD ?_ | refine sE ?_ | refine sF ?_))
  first | refine ag (aJ _ _) (fun _ h=>nomatch h) fun x b=>?_ | refine af (aJ _ _) (fun _ h=>nomatch h) fun x b=>?_
  (with_reducible repeat (first | refine sA ?_ | refine sB ?_ | refine sC ?_ | refine sD ?_ | refine sE ?_ | refine sF ?_))
  first | refine ag (fS hR _ _) (fun _ h=>nomatch h) fun r4 nr4=>?_ | refine af (fS hR _ _) (fun _ h=>nomatch h) fun r4 nr4=>?_
  (with_reducible repeat (first | refine sA ?_ | refine sB ?_ | refine sC ?_ | refine sD ?_ | refine sE ?_ | refine sF ?_))
  first | refine ag (aJ _ _) (fun _ h=>nomatch h) fun x b=>?_ | refine af (aJ _ _) (fun _ h=>nomatch h) fun x b=>?_
  (with_reducible repeat (first | refine sA ?_ | refine sB ?_ | refine sC ?_ | refine sD ?_ | refine sE ?_ | refine sF ?_))
  first | refine ag (hR.block _) (fun _ h=>nomatch h) fun r6 nr6=>?_ | refine af (hR.block _) (fun _ h=>nomatch h) fun r6 nr6=>?_
  refine ca [r4,r6] [nr4,nr6] rfl (by decide) (by decide) (by kernel_rfl) (fun F hF=>(.cons _ _ _ _ (hF (NodeF nr4 r4) (by repeat (first | exact mz | apply ms))) (.cons _ _ _ _ (hF (NodeF nr6 r6) (by repeat (first | exact mz | apply ms))) .nil))) fun r8=>?_
  (with_reducible repeat (first | refine sA ?_ | refine sB ?_ | refine sC ?_ | refine sD ?_ | refine sE ?_ | refine sF ?_))
  exact av (t:=tP) _ rfl (fun F hF=>hF _ (by repeat (first | exact mz | apply ms)))
 ·skip
  (with_reducible repeat (first | refine sA ?_ | refine sB ?_ | refine sC ?_ | refine sD ?_ | refine sE ?_ | refine sF ?_))
  first | refine ag (eM _ _ (by decide) (by decide)) (fun _ h=>nomatch h) fun r9 b=>Sim.prop fun h=>?_ | refine af (eM _ _ (by decide) (by decide)) (fun _ h=>nomatch h) fun r9 b=>Sim.prop fun h=>?_
  subst h
  refine gB (c:=true) (z:=[.int .i64 0,.string kE,.int .i64 0,.int .i64 0]) (by kernel_rfl) (by kernel_rfl) rfl (by simp [Value.cells,Value.oneCell']) fun br10=>?_
  first | refine dg ?_ fun x17=>?_ | refine dU ?_ fun x17=>?_
  ·skip
   (with_reducible repeat (first | refine sA ?_ | refine sB ?_ | refine sC ?_ | refine sD ?_ | refine sE ?_ | refine sF ?_))
   first | refine ag (bk _) (fun _ h=>nomatch h) fun r12 b=>Sim.prop fun h=>?_ | refine af (bk _) (fun _ h=>nomatch h) fun r12 b=>Sim.prop fun h=>?_
   subst h
   (with_reducible repeat (first | refine sA ?_ | refine sB ?_ | refine sC ?_ | refine sD ?_ | refine sE ?_ | refine sF ?_))
   (first | refine qA (fun h=>?_) fun h=>?_ | refine qB (fun h=>?_) fun h=>?_ | refine qC (fun h=>?_) fun h=>?_ | refine qD (fun h=>?_) fun h=>?_ | refine qE (fun h=>?_) fun h=>?_) -- ((r12.1:Int)==1)
   ·skip
    refine ow (bs:=el) (_,_,_,_,()) (by repeat (first | exact mz | apply ms)) (by kernel_rfl) rfl rfl ?_
    refine fA (jD _ _ _) (fun _ h=>nomatch h) ?_
    (with_reducible repeat (first | refine sA ?_ | refine sB ?_ | refine sC ?_ | refine sD ?_ | refine sE ?_ | refine sF ?_))
    (first | refine qA (fun h=>?_) fun h=>?_ | refine qB (fun h=>?_) fun h=>?_ | refine qC (fun h=>?_) fun h=>?_ | refine qD (fun h=>?_) fun h=>?_ | refine qE (fun h=>?_) fun h=>?_) -- r14
    ·skip
     exact ba _ rfl (by first | rfl | (simp only [Tok.kind] at *; simp_all))
    ·skip
     refine ow (bs:=el) (_,_,_,_,()) (by repeat (first | exact mz | apply ms)) (by kernel_rfl) rfl rfl ?_
     refine fA (jD _ _ _) (fun _ h=>nomatch h) ?_
     exact ba _ rfl (by first | rfl | (simp only [Tok.kind] at *; simp_all))
   ·skip
    exact ba _ rfl (by first | rfl | (simp only [Tok.kind] at *; simp_all))
  ·skip
   (with_reducible repeat (first | refine sA ?_ | refine sB ?_ | refine sC ?_ | refine sD ?_ | refine sE ?_ | refine sF ?_))
   (first | refine qA (fun h=>?_) fun h=>?_ | refine qB (fun h=>?_) fun h=>?_ | refine qC (fun h=>?_) fun h=>?_ | refine qD (fun h=>?_) fun h=>?_ | refine qE (fun h=>?_) fun h=>?_) -- x17.1
   ·skip
    (with_reducible repeat (first | refine sA ?_ | refine sB ?_ | refine sC ?_ | refine sD ?_ | refine sE ?_ | refine sF ?_))
    first | refine ag (nE hR _ _ _) (fun _ h=>nomatch h) fun r18 nr18=>?_ | refine af (nE hR _ _ _) (fun _ h=>nomatch h) fun r18 nr18=>?_
    (with_reducible repeat (first | refine sA ?_ | refine sB ?_ | refine sC ?_ | refine sD ?_ | refine sE ?_ | refine sF ?_))
    exact av (t:=tP) _ rfl (fun F hF=>hF _ (by repeat (first | exact mz | apply ms)))
   ·skip
    (with_reducible repeat (first | refine sA ?_ | refine sB ?_ | refine sC ?_ | refine sD ?_ | refine sE ?_ | refine sF ?_))
    first | refine ag (az _ _) (fun _ h=>nomatch h) fun r19 b=>Sim.prop fun h=>?_ | refine af (az _ _) (fun _ h=>nomatch h) fun r19 b=>Sim.prop fun h=>?_
    subst h
    refine jh ?_ fun x20=>?_
    ·skip
     (with_reducible repeat (first | refine sA ?_ | refine sB ?_ | refine sC ?_ | refine sD ?_ | refine sE ?_ | refine sF ?_))
     (first | refine qA (fun h=>?_) fun h=>?_ | refine qB (fun h=>?_) fun h=>?_ | refine qC (fun h=>?_) fun h=>?_ | refine qD (fun h=>?_) fun h=>?_ | refine qE (fun h=>?_) fun h=>?_) -- r19
     ·skip
      exact d9 _ rfl rfl
     ·skip
      exact d9 _ rfl rfl
    ·skip
     (with_reducible repeat (first | refine sA ?_ | refine sB ?_ | refine sC ?_ | refine sD ?_ | refine sE ?_ | refine sF ?_))
     first | refine ag (ch _) (fun _ h=>nomatch h) fun r21 b=>Sim.prop fun h=>?_ | refine af (ch _) (fun _ h=>nomatch h) fun r21 b=>Sim.prop fun h=>?_
     subst h
     (with_reducible repeat (first | refine sA ?_ | refine sB ?_ | refine sC ?_ | refine sD ?_ | refine sE ?_ | refine sF ?_))
     first | refine ag (fH hR _) (fun _ h=>nomatch h) fun r22 nr22=>?_ | refine af (fH hR _) (fun _ h=>nomatch h) fun r22 nr22=>?_
     (with_reducible repeat (first | refine sA ?_ | refine sB ?_ | refine sC ?_ | refine sD ?_ | refine sE ?_ | refine sF ?_))
     first | refine ag (dN _) (fun _ h=>nomatch h) fun r23 nr23=>?_ | refine af (dN _) (fun _ h=>nomatch h) fun r23 nr23=>?_
     (with_reducible repeat (first | refine sA ?_ | refine sB ?_ | refine sC ?_ | refine sD ?_ | refine sE ?_ | refine sF ?_))
     first | refine ag (az _ _) (fun _ h=>nomatch h) fun r24 b=>Sim.prop fun h=>?_ | refine af (az _ _) (fun _ h=>nomatch h) fun r24 b=>Sim.prop fun h=>?_
     subst h
     (with_reducible repeat (first | refine sA ?_ | refine sB ?_ | refine sC ?_ | refine sD ?_ | refine sE ?_ | refine sF ?_))
     (first | refine qA (fun h=>?_) fun h=>?_ | refine qB (fun h=>?_) fun h=>?_ | refine qC (fun h=>?_) fun h=>?_ | refine qD (fun h=>?_) fun h=>?_ | refine qE (fun h=>?_) fun h=>?_) -- r24
     ·skip
      (with_reducible repeat (first | refine sA ?_ | refine sB ?_ | refine sC ?_ | refine sD ?_ | refine sE ?_ | refine sF ?_))
      first | refine ag (hR.expr _) (fun _ h=>nomatch h) fun r25 nr25=>?_ | refine af (hR.expr _) (fun _ h=>nomatch h) fun r25 nr25=>?_
      (with_reducible repeat (first | refine sA ?_ | refine sB ?_ | refine sC ?_ | refine sD ?_ | refine sE ?_ | refine sF ?_))
      first | refine ag (aJ _ _) (fun _ h=>nomatch h) fun x b=>?_ | refine af (aJ _ _) (fun _ h=>nomatch h) fun x b=>?_
      refine ca [r22,r25] [nr22,nr25] rfl (by decide) (by decide) (by kernel_rfl) (fun F hF=>(.cons _ _ _ _ (hF (NodeF nr22 r22) (by repeat (first | exact mz | apply ms))) (.cons _ _ _ _ (hF (NodeF nr25 r25) (by repeat (first | exact mz | apply ms))) .nil))) fun r28=>?_
      (with_reducible repeat (first | refine sA ?_ | refine sB ?_ | refine sC ?_ | refine sD ?_ | refine sE ?_ | refine sF ?_))
      exact av (t:=tP) _ rfl (fun F hF=>hF _ (by repeat (first | exact mz | apply ms)))
     ·skip
      (with_reducible repeat (first | refine sA ?_ | refine sB ?_ | refine sC ?_ | refine sD ?_ | refine sE ?_ | refine sF ?_))
      first | refine ag (aJ _ _) (fun _ h=>nomatch h) fun x b=>?_ | refine af (aJ _ _) (fun _ h=>nomatch h) fun x b=>?_
      refine ca [r22,r23] [nr22,nr23] rfl (by decide) (by decide) (by kernel_rfl) (fun F hF=>(.cons _ _ _ _ (hF (NodeF nr22 r22) (by repeat (first | exact mz | apply ms))) (.cons _ _ _ _ (hF (NodeF nr23 r23) (by repeat (first | exact mz | apply ms))) .nil))) fun r31=>?_
      (with_reducible repeat (first | refine sA ?_ | refine sB ?_ | refine sC ?_ | refine sD ?_ | refine sE ?_ | refine sF ?_))
      exact av (t:=tP) _ rfl (fun F hF=>hF _ (by repeat (first | exact mz | apply ms)))
theorem Er {R:a6} (hR:cJ R) (pb:Nat) (a1:Int):Meets PG (PI pb) (aa lg #[.pointer (some (aR pb)),.int .i64 a1]) tP (og R a1) NodeF []:=by
 refine yu (aR pb) a1 ?_
 unfold lL og
 (with_reducible repeat (first | refine sA ?_ | refine sB ?_ | refine sC ?_ | refine sD ?_ | refine sE ?_ | refine sF ?_))
 first | refine ag (ch _) (fun _ h=>nomatch h) fun r1 b=>Sim.prop fun h=>?_ | refine af (ch _) (fun _ h=>nomatch h) fun r1 b=>Sim.prop fun h=>?_
 subst h
 (with_reducible repeat (first | refine sA ?_ | refine sB ?_ | refine sC ?_ | refine sD ?_ | refine sE ?_ | refine sF ?_))
 first | refine ag (jF hR _) (fun _ h=>nomatch h) fun r2 nr2=>?_ | refine af (jF hR _) (fun _ h=>nomatch h) fun r2 nr2=>?_
 (with_reducible repeat (first | refine sA ?_ | refine sB ?_ | refine sC ?_ | refine sD ?_ | refine sE ?_ | refine sF ?_))
 first | refine ag (dN _) (fun _ h=>nomatch h) fun r3 nr3=>?_ | refine af (dN _) (fun _ h=>nomatch h) fun r3 nr3=>?_
 (with_reducible repeat (first | refine sA ?_ | refine sB ?_ | refine sC ?_ | refine sD ?_ | refine sE ?_ | refine sF ?_))
 first | refine ag (bk _) (fun _ h=>nomatch h) fun r4 b=>Sim.prop fun h=>?_ | refine af (bk _) (fun _ h=>nomatch h) fun r4 b=>Sim.prop fun h=>?_
 subst h
 (with_reducible repeat (first | refine sA ?_ | refine sB ?_ | refine sC ?_ | refine sD ?_ | refine sE ?_ | refine sF ?_))
 first | refine ag (az _ _) (fun _ h=>nomatch h) fun r5 b=>Sim.prop fun h=>?_ | refine af (az _ _) (fun _ h=>nomatch h) fun r5 b=>Sim.prop fun h=>?_
 subst h
 refine gz NodeF ?_ fun nx10 x10=>?_
 ·skip
  (with_reducible repeat (first | refine sA ?_ | refine sB ?_ | refine sC ?_ | refine sD ?_ | refine sE ?_ | refine sF ?_))
  (first | refine qA (fun h=>?_) fun h=>?_ | refine qB (fun h=>?_) fun h=>?_ | refine qC (fun h=>?_) fun h=>?_ | refine qD (fun h=>?_) fun h=>?_ | refine qE (fun h=>?_) fun h=>?_) -- r5
  ·skip
   (with_reducible repeat (first | refine sA ?_ | refine sB ?_ | refine sC ?_ | refine sD ?_ | refine sE ?_ | refine sF ?_))
   first | refine ag (ch _) (fun _ h=>nomatch h) fun r6 b=>Sim.prop fun h=>?_ | refine af (ch _) (fun _ h=>nomatch h) fun r6 b=>Sim.prop fun h=>?_
   subst h
   (with_reducible repeat (first | refine sA ?_ | refine sB ?_ | refine sC ?_ | refine sD ?_ | refine sE ?_ | refine sF ?_))
   first | refine ag (mm hR _) (fun _ h=>nomatch h) fun r7 nr7=>?_ | refine af (mm hR _) (fun _ h=>nomatch h) fun r7 nr7=>?_
   refine ca [r7] [nr7] rfl (by decide) (by decide) (by kernel_rfl) (fun F hF=>(.cons _ _ _ _ (hF (NodeF nr7 r7) (by repeat (first | exact mz | apply ms))) .nil)) fun r9=>?_
   exact dY _ rfl rfl (fun F hF=>hF _ (by repeat (first | exact mz | apply ms)))
  ·skip
   exact dY _ rfl rfl (fun F hF=>hF _ (by repeat (first | exact mz | apply ms)))
 ·skip
  (with_reducible repeat (first | refine sA ?_ | refine sB ?_ | refine sC ?_ | refine sD ?_ | refine sE ?_ | refine sF ?_))
  first | refine ag (xd hR _ _) (fun _ h=>nomatch h) fun r11 nr11=>?_ | refine af (xd hR _ _) (fun _ h=>nomatch h) fun r11 nr11=>?_
  (with_reducible repeat (first | refine sA ?_ | refine sB ?_ | refine sC ?_ | refine sD ?_ | refine sE ?_ | refine sF ?_))
  first | refine ag (aJ _ _) (fun _ h=>nomatch h) fun x b=>?_ | refine af (aJ _ _) (fun _ h=>nomatch h) fun x b=>?_
  (with_reducible repeat (first | refine sA ?_ | refine sB ?_ | refine sC ?_ | refine sD ?_ | refine sE ?_ | refine sF ?_))
  refine iZ (FD _) (fun _ h=>nomatch h) fun r13 nr13 Kr13=>Sim.both (Sim.prop fun hk0=>?_)
  refine eu (x:={ ι:=Int × N,sp:=fun j=>cond (decide (j.1 > 1)) cz (do a8 k_rc; pure (aE 42 r1 0 a1 [nr2,nx10,nr11,j.2])),J:=fun j vs L'=>Fact.ex fun K:ak=>(Fact.prop (vs=[.int .i64 j.1]∧L'=K++[])).both (dl j.2 r13 K) }) ?_ fun i vs L'=>⟨?_,fun y=>?_⟩
  ·refine oK (δ:=Int × N) (fun k d=>membersCS R k d.1 d.2>>=fun cp=>cond (decide (cp.1 > 1)) cz (do a8 k_rc; pure (aE 42 r1 0 a1 [nr2,nx10,nr11,cp.2])))
    (fun k d vs L'=>Fact.ex fun K:ak=>(Fact.prop (vs=[.int .i64 d.1]∧L'=K++[]∧d.2.kids.length+2 * k≤2199023255552∧0≤d.1∧d.1≤d.2.kids.length)).both (dl d.2 r13 K)) R.fuel (0,nr13) (fun _=>rfl) rfl (fun F hF=>⟨Kr13,⟨rfl,rfl,?_,Int.le_refl _,?_⟩,hF _ (by repeat (first | exact mz | apply ms))⟩)
    (by rintro k d vs L' F ⟨K,⟨rfl,_⟩,_⟩; exact ⟨(d.1,()),rfl⟩) ?_
   ·have:=hR.fuel; rw [hk0]; simp; omega
   ·rw [hk0]; simp
   rintro k ⟨c,n⟩ L' ⟨c',⟨⟩⟩
   refine Sim.ex fun K=>Sim.both (Sim.prop fun ⟨hv,hL,hn,hc0,hc1⟩=>?_)
   subst hL
   obtain rfl:c=c':=by
    have:=(List.cons.inj hv).1
    cases this; rfl
   replace hn:n.kids.length+2 * (k+1)≤2199023255552:=hn
   replace hc0:0≤c:=hc0
   have hc2:(c:Int)≤((N.kids n).length:Int):=hc1
   clear hc1
   have hc0':(0:Int)≤c:=hc0
   dsimp only
   rw [membersCS.eq_2]
   (with_reducible repeat (first | refine sA ?_ | refine sB ?_ | refine sC ?_ | refine sD ?_ | refine sE ?_ | refine sF ?_))
   refine ag (cr _ _) (fun _ h=>nomatch h) fun r15 b=>Sim.prop fun h=>?_
   subst h
   refine qD (fun h=>?_) (fun h=>?_)
   ·(with_reducible repeat (first | refine sA ?_ | refine sB ?_ | refine sC ?_ | refine sD ?_ | refine sE ?_ | refine sF ?_))
    refine ag (Kn hR _) (fun _ h=>nomatch h) fun r16 nr16=>?_
    refine jY (by repeat (first | exact mz | apply ms)) ?_
    refine zt (fun c2=>fun st=>if c2=(if nr16.kind==46 then c+1 else c) then (membersCS R k c2 (n.push nr16)>>=fun cp=>cond (decide (cp.1 > 1)) cz (do a8 k_rc; pure (aE 42 r1 0 a1 [nr2,nx10,nr11,cp.2]))) st else none) ?_ fun x19=>?_
    ·refine qE (fun h=>?_) (fun h=>?_)
     ·have hw:IntKind.i64.wrap (c+1)=c+1:=bg (by omega) (by omega)
      rw [hw]
      refine d9 _ rfl ?_
      have h':(nr16.kind==46)=true:=h
      rw [h']; funext st; simp
     ·refine d9 _ rfl ?_
      have h':(nr16.kind==46)=false:=h
      rw [h']; funext st; simp
    ·by_cases hx:x19=(if nr16.kind==46 then c+1 else c)
     ·refine Sim.spec (s':=(membersCS R k x19 (n.push nr16)>>=fun cp=>cond (decide (cp.1 > 1)) cz (do a8 k_rc; pure (aE 42 r1 0 a1 [nr2,nx10,nr11,cp.2])))) (by funext st; simp only [if_pos hx]) ?_
      refine GG (n:=n) (by repeat (first | exact mz | apply ms)) (by repeat (first | exact mz | apply ms)) (by omega) fun K=>?_
      refine cQ rfl ⟨(k,(x19,n.push nr16)),Nat.lt_succ_self k⟩ rfl fun F hF=>⟨K,⟨rfl,rfl,?_,?_,?_⟩,hF _ (List.mem_cons_self ..)⟩
      ·show (n.push nr16).kids.length+2 * k≤2199023255552; rw [N.push_len]; omega
      ·have h9:(0:Int)≤(if nr16.kind==46 then c+1 else c):=by split<;>omega
       exact hx.symm▸h9
      ·have h9:(if nr16.kind==46 then c+1 else c)≤(((n.push nr16).kids.length:Nat):Int):=by rw [N.push_len]; split<;>(push_cast; omega)
       exact hx.symm▸h9
     ·intro r w F H st res S hs
      simp only [if_neg hx] at hs; cases hs
   ·refine cQ rfl (c,n) rfl fun F hF=>⟨K,⟨rfl,rfl⟩,hF _ (by repeat (first | exact mz | apply ms))⟩
  ·rintro F ⟨K,⟨rfl,_⟩,_⟩; exact ⟨(i.1,()),rfl⟩
  ·obtain ⟨y,⟨⟩⟩:=y
   refine Sim.ex fun K=>Sim.both (Sim.prop fun ⟨hv,hL⟩=>?_)
   subst hL
   obtain rfl:y=i.1:=by
    have:=(List.cons.inj hv).1
    cases this; rfl
   refine qA (fun h=>?_) (fun h=>?_)
   ·exact ej (β1:=Unit) (Rel1:=fun _ _ _=>Fact.prop True) (gl _) (fun _ h=>nomatch h) (by first | exact eh | exact ez _)
   ·refine ag (aJ _ _) (fun _ h=>nomatch h) fun x b=>?_
    refine dC (n:=i.2) (x:=r13) (by repeat (first | exact mz | apply ms)) ?_
    refine ca [r2,x10,r11,r13] [nr2,nx10,nr11,i.2] rfl (by decide) (by decide) (by kernel_rfl) (fun F hF=>(.cons _ _ _ _ (hF (NodeF nr2 r2) (by repeat (first | exact mz | apply ms))) (.cons _ _ _ _ (hF (NodeF nx10 x10) (by repeat (first | exact mz | apply ms))) (.cons _ _ _ _ (hF (NodeF nr11 r11) (by repeat (first | exact mz | apply ms))) (.cons _ _ _ _ (hF (NodeF i.2 r13) (by repeat (first | exact mz | apply ms))) .nil))))) fun r33=>?_
    exact av (t:=tP) _ rfl (fun F hF=>hF _ (by repeat (first | exact mz | apply ms)))
theorem ww {R:a6} (hR:cJ R) (pb:Nat) (n:Int) (pos:Int):Meets PG (PI pb) (aa jM #[.pointer (some (aR pb)),.int .i64 n,.int .i64 pos]) tP (po R n pos) NodeF []:=by
 refine AG (aR pb) n pos ?_
 unfold nq po
 (with_reducible repeat (first | refine sA ?_ | refine sB ?_ | refine sC ?_ | refine sD ?_ | refine sE ?_ | refine sF ?_))
 first | refine ag (aJ _ _) (fun _ h=>nomatch h) fun x b=>?_ | refine af (aJ _ _) (fun _ h=>nomatch h) fun x b=>?_
 (with_reducible repeat (first | refine sA ?_ | refine sB ?_ | refine sC ?_ | refine sD ?_ | refine sE ?_ | refine sF ?_))
 first | refine ag (ch _) (fun _ h=>nomatch h) fun r2 b=>Sim.prop fun h=>?_ | refine af (ch _) (fun _ h=>nomatch h) fun r2 b=>Sim.prop fun h=>?_
 subst h
 refine gA fun r3 Kr3=>?_
 (with_reducible repeat (first | refine sA ?_ | refine sB ?_ | refine sC ?_ | refine sD ?_ | refine sE ?_ | refine sF ?_))
 first | refine ag (aJ _ _) (fun _ h=>nomatch h) fun x b=>?_ | refine af (aJ _ _) (fun _ h=>nomatch h) fun x b=>?_
 refine mr (fun n=>do a8 k_rc; pure n) r3 [] ?_ fun n K=>?_
 ·skip
  refine im (oV R) R.fuel _ (fun _=>rfl) rfl (by have:=hR.fuel; simp [aE,N.kids]; omega) (by repeat (first | exact mz | apply ms)) fun k n K hn=>?_
  (with_reducible repeat (first | refine sA ?_ | refine sB ?_ | refine sC ?_ | refine sD ?_ | refine sE ?_ | refine sF ?_))
  first | refine ag (cr _ _) (fun _ h=>nomatch h) fun r6 b=>Sim.prop fun h=>?_ | refine af (cr _ _) (fun _ h=>nomatch h) fun r6 b=>Sim.prop fun h=>?_
  subst h
  (with_reducible repeat (first | refine sA ?_ | refine sB ?_ | refine sC ?_ | refine sD ?_ | refine sE ?_ | refine sF ?_))
  (first | refine qA (fun h=>?_) fun h=>?_ | refine qB (fun h=>?_) fun h=>?_ | refine qC (fun h=>?_) fun h=>?_ | refine qD (fun h=>?_) fun h=>?_ | refine qE (fun h=>?_) fun h=>?_) -- (!r6)
  ·skip
   (with_reducible repeat (first | refine sA ?_ | refine sB ?_ | refine sC ?_ | refine sD ?_ | refine sE ?_ | refine sF ?_))
   first | refine ag (bk _) (fun _ h=>nomatch h) fun r7 b=>Sim.prop fun h=>?_ | refine af (bk _) (fun _ h=>nomatch h) fun r7 b=>Sim.prop fun h=>?_
   subst h
   (with_reducible repeat (first | refine sA ?_ | refine sB ?_ | refine sC ?_ | refine sD ?_ | refine sE ?_ | refine sF ?_))
   first | refine ag (ch _) (fun _ h=>nomatch h) fun r8 b=>Sim.prop fun h=>?_ | refine af (ch _) (fun _ h=>nomatch h) fun r8 b=>Sim.prop fun h=>?_
   subst h
   (with_reducible repeat (first | refine sA ?_ | refine sB ?_ | refine sC ?_ | refine sD ?_ | refine sE ?_ | refine sF ?_))
   first | refine ag (dN _) (fun _ h=>nomatch h) fun r9 nr9=>?_ | refine af (dN _) (fun _ h=>nomatch h) fun r9 nr9=>?_
   (with_reducible repeat (first | refine sA ?_ | refine sB ?_ | refine sC ?_ | refine sD ?_ | refine sE ?_ | refine sF ?_))
   first | refine ag (az _ _) (fun _ h=>nomatch h) fun r10 b=>Sim.prop fun h=>?_ | refine af (az _ _) (fun _ h=>nomatch h) fun r10 b=>Sim.prop fun h=>?_
   subst h
   refine gz NodeF ?_ fun nx12 x12=>?_
   ·skip
    (with_reducible repeat (first | refine sA ?_ | refine sB ?_ | refine sC ?_ | refine sD ?_ | refine sE ?_ | refine sF ?_))
    (first | refine qA (fun h=>?_) fun h=>?_ | refine qB (fun h=>?_) fun h=>?_ | refine qC (fun h=>?_) fun h=>?_ | refine qD (fun h=>?_) fun h=>?_ | refine qE (fun h=>?_) fun h=>?_) -- r10
    ·skip
     (with_reducible repeat (first | refine sA ?_ | refine sB ?_ | refine sC ?_ | refine sD ?_ | refine sE ?_ | refine sF ?_))
     first | refine ag (hR.expr _) (fun _ h=>nomatch h) fun r11 nr11=>?_ | refine af (hR.expr _) (fun _ h=>nomatch h) fun r11 nr11=>?_
     exact dY _ rfl rfl (fun F hF=>hF _ (by repeat (first | exact mz | apply ms)))
    ·skip
     exact dY _ rfl rfl (fun F hF=>hF _ (by repeat (first | exact mz | apply ms)))
   ·skip
    refine gr (by repeat (first | exact mz | apply ms)) fun b sl ps K2 hx hb=>?_
    refine e9 [x12] [nx12] rfl (by decide) (by decide) (by kernel_rfl) (fun F hF=>(.cons _ _ _ _ (hF (NodeF nx12 x12) (by repeat (first | exact mz | apply ms))) .nil)) (fun p hp=>by first | exact absurd hp List.not_mem_nil | (simp at hp; simp [hp])) fun r16=>?_
    subst hx
    refine gD hb (by repeat (first | exact mz | apply ms)) (by repeat (first | exact mz | apply ms)) (by omega) fun K=>?_
    (with_reducible repeat (first | refine sA ?_ | refine sB ?_ | refine sC ?_ | refine sD ?_ | refine sE ?_ | refine sF ?_))
    first | refine ag (az _ _) (fun _ h=>nomatch h) fun r21 b=>Sim.prop fun h=>?_ | refine af (az _ _) (fun _ h=>nomatch h) fun r21 b=>Sim.prop fun h=>?_
    subst h
    (with_reducible repeat (first | refine sA ?_ | refine sB ?_ | refine sC ?_ | refine sD ?_ | refine sE ?_ | refine sF ?_))
    (first | refine qA (fun h=>?_) fun h=>?_ | refine qB (fun h=>?_) fun h=>?_ | refine qC (fun h=>?_) fun h=>?_ | refine qD (fun h=>?_) fun h=>?_ | refine qE (fun h=>?_) fun h=>?_) -- (!r21)
    ·skip
     exact gu _ rfl rfl (by repeat (first | exact mz | apply ms))
    ·skip
     (first | refine kh _ rfl (by simp [N.push_len] at hn ⊢; omega) (by repeat (first | exact mz | apply ms)) | refine kb _ (by decide) rfl (by simp [N.push_len] at hn ⊢; omega) (by repeat (first | exact mz | apply ms)))
  ·skip
   exact gu _ rfl rfl (by repeat (first | exact mz | apply ms))
 ·skip
  (with_reducible repeat (first | refine sA ?_ | refine sB ?_ | refine sC ?_ | refine sD ?_ | refine sE ?_ | refine sF ?_))
  first | refine ag (aJ _ _) (fun _ h=>nomatch h) fun x b=>?_ | refine af (aJ _ _) (fun _ h=>nomatch h) fun x b=>?_
  refine dC (n:=_) (x:=r3) (by repeat (first | exact mz | apply ms)) ?_
  (with_reducible repeat (first | refine sA ?_ | refine sB ?_ | refine sC ?_ | refine sD ?_ | refine sE ?_ | refine sF ?_))
  exact av (t:=tP) _ rfl (fun F hF=>hF _ (by repeat (first | exact mz | apply ms)))
theorem tO {R:a6} (hR:cJ R) (pb:Nat) (a1:Int):Meets PG (PI pb) (aa iv #[.pointer (some (aR pb)),.int .i64 a1]) tP (gx R a1) NodeF []:=by
 refine rG (aR pb) a1 ?_
 unfold ip gx
 (with_reducible repeat (first | refine sA ?_ | refine sB ?_ | refine sC ?_ | refine sD ?_ | refine sE ?_ | refine sF ?_))
 first | refine ag (ch _) (fun _ h=>nomatch h) fun r1 b=>Sim.prop fun h=>?_ | refine af (ch _) (fun _ h=>nomatch h) fun r1 b=>Sim.prop fun h=>?_
 subst h
 refine gA fun r2 Kr2=>?_
 (with_reducible repeat (first | refine sA ?_ | refine sB ?_ | refine sC ?_ | refine sD ?_ | refine sE ?_ | refine sF ?_))
 first | refine ag (aJ _ _) (fun _ h=>nomatch h) fun x b=>?_ | refine af (aJ _ _) (fun _ h=>nomatch h) fun x b=>?_
 refine mr (fun n=>do a8 k_rc; pure n) r2 [] ?_ fun n K=>?_
 ·skip
  refine im (jC R) R.fuel _ (fun _=>rfl) rfl (by have:=hR.fuel; simp [aE,N.kids]; omega) (by repeat (first | exact mz | apply ms)) fun k n K hn=>?_
  (with_reducible repeat (first | refine sA ?_ | refine sB ?_ | refine sC ?_ | refine sD ?_ | refine sE ?_ | refine sF ?_))
  first | refine ag (cr _ _) (fun _ h=>nomatch h) fun r5 b=>Sim.prop fun h=>?_ | refine af (cr _ _) (fun _ h=>nomatch h) fun r5 b=>Sim.prop fun h=>?_
  subst h
  (with_reducible repeat (first | refine sA ?_ | refine sB ?_ | refine sC ?_ | refine sD ?_ | refine sE ?_ | refine sF ?_))
  (first | refine qA (fun h=>?_) fun h=>?_ | refine qB (fun h=>?_) fun h=>?_ | refine qC (fun h=>?_) fun h=>?_ | refine qD (fun h=>?_) fun h=>?_ | refine qE (fun h=>?_) fun h=>?_) -- (!r5)
  ·skip
   (with_reducible repeat (first | refine sA ?_ | refine sB ?_ | refine sC ?_ | refine sD ?_ | refine sE ?_ | refine sF ?_))
   first | refine ag (bk _) (fun _ h=>nomatch h) fun r6 b=>Sim.prop fun h=>?_ | refine af (bk _) (fun _ h=>nomatch h) fun r6 b=>Sim.prop fun h=>?_
   subst h
   refine gB (c:=true) (z:=[.int .i64 0,.string kE,.int .i64 0,.int .i64 0]) (by kernel_rfl) (by kernel_rfl) rfl (by simp [Value.cells,Value.oneCell']) fun br7=>?_
   (with_reducible repeat (first | refine sA ?_ | refine sB ?_ | refine sC ?_ | refine sD ?_ | refine sE ?_ | refine sF ?_))
   first | refine ag (az _ _) (fun _ h=>nomatch h) fun r9 b=>Sim.prop fun h=>?_ | refine af (az _ _) (fun _ h=>nomatch h) fun r9 b=>Sim.prop fun h=>?_
   subst h
   (with_reducible repeat (first | refine sA ?_ | refine sB ?_ | refine sC ?_ | refine sD ?_ | refine sE ?_ | refine sF ?_))
   (first | refine qA (fun h=>?_) fun h=>?_ | refine qB (fun h=>?_) fun h=>?_ | refine qC (fun h=>?_) fun h=>?_ | refine qD (fun h=>?_) fun h=>?_ | refine qE (fun h=>?_) fun h=>?_) -- (!r9)
   ·skip
    refine gr (by repeat (first | exact mz | apply ms)) fun b sl ps K2 hx hb=>?_
    (with_reducible repeat (first | refine sA ?_ | refine sB ?_ | refine sC ?_ | refine sD ?_ | refine sE ?_ | refine sF ?_))
    first | refine ef (hR.statement _) (fun _ h=>nomatch h) fun r12 nr12=>?_ | refine iN (hR.statement _) (fun _ h=>nomatch h) fun r12 nr12=>?_
    subst hx
    refine gD hb (by repeat (first | exact mz | apply ms)) (by repeat (first | exact mz | apply ms)) (by omega) fun K=>?_
    (first | refine kh _ rfl (by simp [N.push_len] at hn ⊢; omega) (by repeat (first | exact mz | apply ms)) | refine kb _ (by decide) rfl (by simp [N.push_len] at hn ⊢; omega) (by repeat (first | exact mz | apply ms)))
   ·skip
    first | refine dg ?_ fun x19=>?_ | refine dU ?_ fun x19=>?_
    ·skip
     (with_reducible repeat (first | refine sA ?_ | refine sB ?_ | refine sC ?_ | refine sD ?_ | refine sE ?_ | refine sF ?_))
     first | refine ag (cr _ _) (fun _ h=>nomatch h) fun r17 b=>Sim.prop fun h=>?_ | refine af (cr _ _) (fun _ h=>nomatch h) fun r17 b=>Sim.prop fun h=>?_
     subst h
     (with_reducible repeat (first | refine sA ?_ | refine sB ?_ | refine sC ?_ | refine sD ?_ | refine sE ?_ | refine sF ?_))
     (first | refine qA (fun h=>?_) fun h=>?_ | refine qB (fun h=>?_) fun h=>?_ | refine qC (fun h=>?_) fun h=>?_ | refine qD (fun h=>?_) fun h=>?_ | refine qE (fun h=>?_) fun h=>?_) -- r17
     ·skip
      exact ba _ rfl (by first | rfl | (simp only [Tok.kind] at *; simp_all))
     ·skip
      (with_reducible repeat (first | refine sA ?_ | refine sB ?_ | refine sC ?_ | refine sD ?_ | refine sE ?_ | refine sF ?_))
      first | refine ag (bk _) (fun _ h=>nomatch h) fun r18 b=>Sim.prop fun h=>?_ | refine af (bk _) (fun _ h=>nomatch h) fun r18 b=>Sim.prop fun h=>?_
      subst h
      exact ba _ rfl (by first | rfl | (simp only [Tok.kind] at *; simp_all))
    ·skip
     first | refine kw ?_ ?_ | refine fI cz ?_ ?_
     ·skip
      (with_reducible repeat (first | refine sA ?_ | refine sB ?_ | refine sC ?_ | refine sD ?_ | refine sE ?_ | refine sF ?_))
      (first | refine qA (fun h=>?_) fun h=>?_ | refine qB (fun h=>?_) fun h=>?_ | refine qC (fun h=>?_) fun h=>?_ | refine qD (fun h=>?_) fun h=>?_ | refine qE (fun h=>?_) fun h=>?_) -- x19.1
      ·skip
       exact ej (β1:=Unit) (Rel1:=fun _ _ _=>Fact.prop True) (gl _) (fun _ h=>nomatch h) (by first | exact eh | exact ez _)
      ·skip
       exact gI rfl rfl
     ·skip
      (with_reducible repeat (first | refine sA ?_ | refine sB ?_ | refine sC ?_ | refine sD ?_ | refine sE ?_ | refine sF ?_))
      first | refine ag (bk _) (fun _ h=>nomatch h) fun r22 b=>Sim.prop fun h=>?_ | refine af (bk _) (fun _ h=>nomatch h) fun r22 b=>Sim.prop fun h=>?_
      subst h
      refine ag (hR.declaration _ _) (fun _ h=>nomatch h) fun r23 o23=>?_
      cases o23 with
      | none =>
       refine Sim.prop fun hp=>?_
       subst hp
       refine km (fun c=>cond c cz Sp.stop) ?_ fun x29=>?_
       ·refine zB (by kernel_rfl) (qE (fun h=>?_) (fun h=>by cases h))
        exact ba _ rfl rfl
       ·refine fI Sp.stop ?_ B3
        refine qA (fun h=>?_) (fun h=>?_)
        ·exact ej (β1:=Unit) (Rel1:=fun _ _ _=>Fact.prop True) (gl _) (fun _ h=>nomatch h) (by first | exact eh | exact ez _)
        ·exact gI rfl rfl
      | some n23 =>
       show Sim PG (PI pb) tP (pl NodeF) _ none _ (cond (n23.kind==47&&n23.num==1) cz (jC R k (n.push (aE 50 kE 0 (Tok.pos r6) [n23])))) _ (NodeF n23 r23::_)
       refine jG (n:=n23) (x:=r23) (List.mem_cons_self ..) fun b23 sl23 h23=>?_
       refine dU ?_ fun x29=>?_
       ·refine zB (by kernel_rfl) (qE (fun h=>by rw [h23] at h; cases h) (fun h=>?_))
        refine jY (n:=n23) (by repeat (first | exact mz | apply ms)) ?_
        refine qE (fun h47=>?_) (fun h47=>?_)
        ·refine JF (n:=n23) (by repeat (first | exact mz | apply ms)) ?_
         exact ba _ rfl (by show cond (n23.kind==47&&n23.num==1) _ _=_; rw [show (n23.kind==47)=true from h47]; rfl)
        ·exact ba _ rfl (by show cond (n23.kind==47&&n23.num==1) _ _=_; rw [show (n23.kind==47)=false from h47]; rfl)
       ·refine kw ?_ ?_
        ·refine qA (fun h=>?_) (fun h=>?_)
         ·exact ej (β1:=Unit) (Rel1:=fun _ _ _=>Fact.prop True) (gl _) (fun _ h=>nomatch h) (by first | exact eh | exact ez _)
         ·exact gI rfl rfl
        ·refine gr (n:=n) (by repeat (first | exact mz | apply ms)) fun b sl ps K2 hx hb=>?_
         refine df (b1:=.int .i64) _ (by repeat (first | exact mz | apply ms)) (by kernel_rfl) rfl rfl ?_
         refine e9 [r23] [n23] rfl (by decide) (by decide) (by kernel_rfl) (fun F hF=>(.cons _ _ _ _ (hF (NodeF n23 r23) (by repeat (first | exact mz | apply ms))) .nil)) (fun p hp=>by first | exact absurd hp List.not_mem_nil | (simp at hp; simp [hp])) fun r36=>?_
         subst hx
         refine gD (n:=n) hb (by repeat (first | exact mz | apply ms)) (by repeat (first | exact mz | apply ms)) (by omega) fun K=>?_
         (first | refine kh _ rfl (by simp [N.push_len] at hn ⊢; omega) (by repeat (first | exact mz | apply ms)) | refine kb _ (by decide) rfl (by simp [N.push_len] at hn ⊢; omega) (by repeat (first | exact mz | apply ms)))
  ·skip
   exact gu _ rfl rfl (by repeat (first | exact mz | apply ms))
 ·skip
  (with_reducible repeat (first | refine sA ?_ | refine sB ?_ | refine sC ?_ | refine sD ?_ | refine sE ?_ | refine sF ?_))
  first | refine ag (aJ _ _) (fun _ h=>nomatch h) fun x b=>?_ | refine af (aJ _ _) (fun _ h=>nomatch h) fun x b=>?_
  refine dC (n:=_) (x:=r2) (by repeat (first | exact mz | apply ms)) ?_
  (with_reducible repeat (first | refine sA ?_ | refine sB ?_ | refine sC ?_ | refine sD ?_ | refine sE ?_ | refine sF ?_))
  exact av (t:=tP) _ rfl (fun F hF=>hF _ (by repeat (first | exact mz | apply ms)))
set_option maxHeartbeats 2000000 in
theorem ri {R:a6} (hR:cJ R) (pb:Nat) (a1:Tok):Meets PG (PI pb) (aa ea #[.pointer (some (aR pb)),.agg #[.int .i64 a1.1,.string a1.2.1,.int .i64 a1.2.2.1,.int .i64 a1.2.2.2.1]]) tP (fs R a1) Kw []:=by
 refine qU (aR pb) a1 ?_
 unfold gw fs
 refine jP fun br1=>?_
 first | refine dg ?_ fun x5=>?_ | refine dU ?_ fun x5=>?_
 ·skip
  (with_reducible repeat (first | refine sA ?_ | refine sB ?_ | refine sC ?_ | refine sD ?_ | refine sE ?_ | refine sF ?_))
  first | refine ag (cr _ _) (fun _ h=>nomatch h) fun r2 b=>Sim.prop fun h=>?_ | refine af (cr _ _) (fun _ h=>nomatch h) fun r2 b=>Sim.prop fun h=>?_
  subst h
  (with_reducible repeat (first | refine sA ?_ | refine sB ?_ | refine sC ?_ | refine sD ?_ | refine sE ?_ | refine sF ?_))
  (first | refine qA (fun h=>?_) fun h=>?_ | refine qB (fun h=>?_) fun h=>?_ | refine qC (fun h=>?_) fun h=>?_ | refine qD (fun h=>?_) fun h=>?_ | refine qE (fun h=>?_) fun h=>?_) -- r2
  ·skip
   (with_reducible repeat (first | refine sA ?_ | refine sB ?_ | refine sC ?_ | refine sD ?_ | refine sE ?_ | refine sF ?_))
   first | refine ag (eM _ _ (by decide) (by decide)) (fun _ h=>nomatch h) fun r3 b=>Sim.prop fun h=>?_ | refine af (eM _ _ (by decide) (by decide)) (fun _ h=>nomatch h) fun r3 b=>Sim.prop fun h=>?_
   subst h
   refine fA (jD _ _ _) (fun _ h=>nomatch h) ?_
   exact ba _ rfl (by first | rfl | (simp only [Tok.kind] at *; simp_all))
  ·skip
   exact ba _ rfl (by first | rfl | (simp only [Tok.kind] at *; simp_all))
 ·skip
  (with_reducible repeat (first | refine sA ?_ | refine sB ?_ | refine sC ?_ | refine sD ?_ | refine sE ?_ | refine sF ?_))
  (first | refine qA (fun h=>?_) fun h=>?_ | refine qB (fun h=>?_) fun h=>?_ | refine qC (fun h=>?_) fun h=>?_ | refine qD (fun h=>?_) fun h=>?_ | refine qE (fun h=>?_) fun h=>?_) -- x5.1
  ·skip
   (with_reducible repeat (first | refine sA ?_ | refine sB ?_ | refine sC ?_ | refine sD ?_ | refine sE ?_ | refine sF ?_))
   first | refine ag (dx _) (fun _ h=>nomatch h) fun r6 b=>Sim.prop fun h=>?_ | refine af (dx _) (fun _ h=>nomatch h) fun r6 b=>Sim.prop fun h=>?_
   subst h
   refine aS (b1:=.int .i64) _ (by repeat (first | exact mz | apply ms)) (by kernel_rfl) rfl rfl ?_
   (with_reducible repeat (first | refine sA ?_ | refine sB ?_ | refine sC ?_ | refine sD ?_ | refine sE ?_ | refine sF ?_))
   first | refine ag (ww hR _ _ _) (fun _ h=>nomatch h) fun r8 nr8=>?_ | refine af (ww hR _ _ _) (fun _ h=>nomatch h) fun r8 nr8=>?_
   (with_reducible repeat (first | refine sA ?_ | refine sB ?_ | refine sC ?_ | refine sD ?_ | refine sE ?_ | refine sF ?_))
   exact av (t:=tP) _ rfl (fun F hF=>hF _ (by repeat (first | exact mz | apply ms)))
  ·skip
   (with_reducible repeat (first | refine sA ?_ | refine sB ?_ | refine sC ?_ | refine sD ?_ | refine sE ?_ | refine sF ?_))
   first | refine ag (az _ _) (fun _ h=>nomatch h) fun r9 b=>Sim.prop fun h=>?_ | refine af (az _ _) (fun _ h=>nomatch h) fun r9 b=>Sim.prop fun h=>?_
   subst h
   (with_reducible repeat (first | refine sA ?_ | refine sB ?_ | refine sC ?_ | refine sD ?_ | refine sE ?_ | refine sF ?_))
   (first | refine qA (fun h=>?_) fun h=>?_ | refine qB (fun h=>?_) fun h=>?_ | refine qC (fun h=>?_) fun h=>?_ | refine qD (fun h=>?_) fun h=>?_ | refine qE (fun h=>?_) fun h=>?_) -- r9
   ·skip
    refine aS (b1:=.int .i64) _ (by repeat (first | exact mz | apply ms)) (by kernel_rfl) rfl rfl ?_
    (with_reducible repeat (first | refine sA ?_ | refine sB ?_ | refine sC ?_ | refine sD ?_ | refine sE ?_ | refine sF ?_))
    first | refine ag (iS hR _ _ _) (fun _ h=>nomatch h) fun r11 nr11=>?_ | refine af (iS hR _ _ _) (fun _ h=>nomatch h) fun r11 nr11=>?_
    (with_reducible repeat (first | refine sA ?_ | refine sB ?_ | refine sC ?_ | refine sD ?_ | refine sE ?_ | refine sF ?_))
    first | refine ag (aJ _ _) (fun _ h=>nomatch h) fun x b=>?_ | refine af (aJ _ _) (fun _ h=>nomatch h) fun x b=>?_
    (with_reducible repeat (first | refine sA ?_ | refine sB ?_ | refine sC ?_ | refine sD ?_ | refine sE ?_ | refine sF ?_))
    exact av (t:=tP) _ rfl (fun F hF=>hF _ (by repeat (first | exact mz | apply ms)))
   ·skip
    (with_reducible repeat (first | refine sA ?_ | refine sB ?_ | refine sC ?_ | refine sD ?_ | refine sE ?_ | refine sF ?_))
    first | refine ag (az _ _) (fun _ h=>nomatch h) fun r13 b=>Sim.prop fun h=>?_ | refine af (az _ _) (fun _ h=>nomatch h) fun r13 b=>Sim.prop fun h=>?_
    subst h
    (with_reducible repeat (first | refine sA ?_ | refine sB ?_ | refine sC ?_ | refine sD ?_ | refine sE ?_ | refine sF ?_))
    (first | refine qA (fun h=>?_) fun h=>?_ | refine qB (fun h=>?_) fun h=>?_ | refine qC (fun h=>?_) fun h=>?_ | refine qD (fun h=>?_) fun h=>?_ | refine qE (fun h=>?_) fun h=>?_) -- r13
    ·skip
     refine aS (b1:=.int .i64) _ (by repeat (first | exact mz | apply ms)) (by kernel_rfl) rfl rfl ?_
     (with_reducible repeat (first | refine sA ?_ | refine sB ?_ | refine sC ?_ | refine sD ?_ | refine sE ?_ | refine sF ?_))
     first | refine ag (iS hR _ _ _) (fun _ h=>nomatch h) fun r15 nr15=>?_ | refine af (iS hR _ _ _) (fun _ h=>nomatch h) fun r15 nr15=>?_
     (with_reducible repeat (first | refine sA ?_ | refine sB ?_ | refine sC ?_ | refine sD ?_ | refine sE ?_ | refine sF ?_))
     first | refine ag (aJ _ _) (fun _ h=>nomatch h) fun x b=>?_ | refine af (aJ _ _) (fun _ h=>nomatch h) fun x b=>?_
     (with_reducible repeat (first | refine sA ?_ | refine sB ?_ | refine sC ?_ | refine sD ?_ | refine sE ?_ | refine sF ?_))
     exact av (t:=tP) _ rfl (fun F hF=>hF _ (by repeat (first | exact mz | apply ms)))
    ·skip
     (with_reducible repeat (first | refine sA ?_ | refine sB ?_ | refine sC ?_ | refine sD ?_ | refine sE ?_ | refine sF ?_))
     first | refine ag (az _ _) (fun _ h=>nomatch h) fun r17 b=>Sim.prop fun h=>?_ | refine af (az _ _) (fun _ h=>nomatch h) fun r17 b=>Sim.prop fun h=>?_
     subst h
     (with_reducible repeat (first | refine sA ?_ | refine sB ?_ | refine sC ?_ | refine sD ?_ | refine sE ?_ | refine sF ?_))
     (first | refine qA (fun h=>?_) fun h=>?_ | refine qB (fun h=>?_) fun h=>?_ | refine qC (fun h=>?_) fun h=>?_ | refine qD (fun h=>?_) fun h=>?_ | refine qE (fun h=>?_) fun h=>?_) -- r17
     ·skip
      refine aS (b1:=.int .i64) _ (by repeat (first | exact mz | apply ms)) (by kernel_rfl) rfl rfl ?_
      (with_reducible repeat (first | refine sA ?_ | refine sB ?_ | refine sC ?_ | refine sD ?_ | refine sE ?_ | refine sF ?_))
      first | refine ag (nE hR _ _ _) (fun _ h=>nomatch h) fun r19 nr19=>?_ | refine af (nE hR _ _ _) (fun _ h=>nomatch h) fun r19 nr19=>?_
      (with_reducible repeat (first | refine sA ?_ | refine sB ?_ | refine sC ?_ | refine sD ?_ | refine sE ?_ | refine sF ?_))
      exact av (t:=tP) _ rfl (fun F hF=>hF _ (by repeat (first | exact mz | apply ms)))
     ·skip
      (with_reducible repeat (first | refine sA ?_ | refine sB ?_ | refine sC ?_ | refine sD ?_ | refine sE ?_ | refine sF ?_))
      first | refine ag (az _ _) (fun _ h=>nomatch h) fun r20 b=>Sim.prop fun h=>?_ | refine af (az _ _) (fun _ h=>nomatch h) fun r20 b=>Sim.prop fun h=>?_
      subst h
      (with_reducible repeat (first | refine sA ?_ | refine sB ?_ | refine sC ?_ | refine sD ?_ | refine sE ?_ | refine sF ?_))
      (first | refine qA (fun h=>?_) fun h=>?_ | refine qB (fun h=>?_) fun h=>?_ | refine qC (fun h=>?_) fun h=>?_ | refine qD (fun h=>?_) fun h=>?_ | refine qE (fun h=>?_) fun h=>?_) -- r20
      ·skip
       refine aS (b1:=.int .i64) _ (by repeat (first | exact mz | apply ms)) (by kernel_rfl) rfl rfl ?_
       (with_reducible repeat (first | refine sA ?_ | refine sB ?_ | refine sC ?_ | refine sD ?_ | refine sE ?_ | refine sF ?_))
       first | refine ag (Er hR _ _) (fun _ h=>nomatch h) fun r22 nr22=>?_ | refine af (Er hR _ _) (fun _ h=>nomatch h) fun r22 nr22=>?_
       (with_reducible repeat (first | refine sA ?_ | refine sB ?_ | refine sC ?_ | refine sD ?_ | refine sE ?_ | refine sF ?_))
       exact av (t:=tP) _ rfl (fun F hF=>hF _ (by repeat (first | exact mz | apply ms)))
      ·skip
       (with_reducible repeat (first | refine sA ?_ | refine sB ?_ | refine sC ?_ | refine sD ?_ | refine sE ?_ | refine sF ?_))
       first | refine ag (cr _ _) (fun _ h=>nomatch h) fun r23 b=>Sim.prop fun h=>?_ | refine af (cr _ _) (fun _ h=>nomatch h) fun r23 b=>Sim.prop fun h=>?_
       subst h
       (with_reducible repeat (first | refine sA ?_ | refine sB ?_ | refine sC ?_ | refine sD ?_ | refine sE ?_ | refine sF ?_))
       (first | refine qA (fun h=>?_) fun h=>?_ | refine qB (fun h=>?_) fun h=>?_ | refine qC (fun h=>?_) fun h=>?_ | refine qD (fun h=>?_) fun h=>?_ | refine qE (fun h=>?_) fun h=>?_) -- r23
       ·skip
        refine aS (b1:=.int .i64) _ (by repeat (first | exact mz | apply ms)) (by kernel_rfl) rfl rfl ?_
        (with_reducible repeat (first | refine sA ?_ | refine sB ?_ | refine sC ?_ | refine sD ?_ | refine sE ?_ | refine sF ?_))
        first | refine ag (ww hR _ _ _) (fun _ h=>nomatch h) fun r25 nr25=>?_ | refine af (ww hR _ _ _) (fun _ h=>nomatch h) fun r25 nr25=>?_
        (with_reducible repeat (first | refine sA ?_ | refine sB ?_ | refine sC ?_ | refine sD ?_ | refine sE ?_ | refine sF ?_))
        exact av (t:=tP) _ rfl (fun F hF=>hF _ (by repeat (first | exact mz | apply ms)))
       ·skip
        (with_reducible repeat (first | refine sA ?_ | refine sB ?_ | refine sC ?_ | refine sD ?_ | refine sE ?_ | refine sF ?_))
        first | refine ag (az _ _) (fun _ h=>nomatch h) fun r26 b=>Sim.prop fun h=>?_ | refine af (az _ _) (fun _ h=>nomatch h) fun r26 b=>Sim.prop fun h=>?_
        subst h
        (with_reducible repeat (first | refine sA ?_ | refine sB ?_ | refine sC ?_ | refine sD ?_ | refine sE ?_ | refine sF ?_))
        (first | refine qA (fun h=>?_) fun h=>?_ | refine qB (fun h=>?_) fun h=>?_ | refine qC (fun h=>?_) fun h=>?_ | refine qD (fun h=>?_) fun h=>?_ | refine qE (fun h=>?_) fun h=>?_) -- r26
        ·skip
         refine aS (b1:=.int .i64) _ (by repeat (first | exact mz | apply ms)) (by kernel_rfl) rfl rfl ?_
         (with_reducible repeat (first | refine sA ?_ | refine sB ?_ | refine sC ?_ | refine sD ?_ | refine sE ?_ | refine sF ?_))
         first | refine ag (tO hR _ _) (fun _ h=>nomatch h) fun r28 nr28=>?_ | refine af (tO hR _ _) (fun _ h=>nomatch h) fun r28 nr28=>?_
         (with_reducible repeat (first | refine sA ?_ | refine sB ?_ | refine sC ?_ | refine sD ?_ | refine sE ?_ | refine sF ?_))
         exact av (t:=tP) _ rfl (fun F hF=>hF _ (by repeat (first | exact mz | apply ms)))
        ·skip
         (with_reducible repeat (first | refine sA ?_ | refine sB ?_ | refine sC ?_ | refine sD ?_ | refine sE ?_ | refine sF ?_))
         first | refine ag (az _ _) (fun _ h=>nomatch h) fun r29 b=>Sim.prop fun h=>?_ | refine af (az _ _) (fun _ h=>nomatch h) fun r29 b=>Sim.prop fun h=>?_
         subst h
         (with_reducible repeat (first | refine sA ?_ | refine sB ?_ | refine sC ?_ | refine sD ?_ | refine sE ?_ | refine sF ?_))
         (first | refine qA (fun h=>?_) fun h=>?_ | refine qB (fun h=>?_) fun h=>?_ | refine qC (fun h=>?_) fun h=>?_ | refine qD (fun h=>?_) fun h=>?_ | refine qE (fun h=>?_) fun h=>?_) -- r29
         ·skip
          (with_reducible repeat (first | refine sA ?_ | refine sB ?_ | refine sC ?_ | refine sD ?_ | refine sE ?_ | refine sF ?_))
          first | refine ag (ch _) (fun _ h=>nomatch h) fun r30 b=>Sim.prop fun h=>?_ | refine af (ch _) (fun _ h=>nomatch h) fun r30 b=>Sim.prop fun h=>?_
          subst h
          (with_reducible repeat (first | refine sA ?_ | refine sB ?_ | refine sC ?_ | refine sD ?_ | refine sE ?_ | refine sF ?_))
          first | refine ag (jF hR _) (fun _ h=>nomatch h) fun r31 nr31=>?_ | refine af (jF hR _) (fun _ h=>nomatch h) fun r31 nr31=>?_
          (with_reducible repeat (first | refine sA ?_ | refine sB ?_ | refine sC ?_ | refine sD ?_ | refine sE ?_ | refine sF ?_))
          first | refine ag (xd hR _ _) (fun _ h=>nomatch h) fun r32 nr32=>?_ | refine af (xd hR _ _) (fun _ h=>nomatch h) fun r32 nr32=>?_
          refine dD [] (fun _ h=>nomatch h) ?_
          refine df (b1:=.int .i64) _ (by repeat (first | exact mz | apply ms)) (by kernel_rfl) rfl rfl ?_
          (with_reducible repeat (first | refine sA ?_ | refine sB ?_ | refine sC ?_ | refine sD ?_ | refine sE ?_ | refine sF ?_))
          first | refine ef (kP hR _) (fun _ h=>nomatch h) fun r34 nr34=>?_ | refine iN (kP hR _) (fun _ h=>nomatch h) fun r34 nr34=>?_
          refine e9 [r31,r32,r34] [nr31,nr32,nr34] rfl (by decide) (by decide) (by kernel_rfl) (fun F hF=>(.cons _ _ _ _ (hF (NodeF nr31 r31) (by repeat (first | exact mz | apply ms))) (.cons _ _ _ _ (hF (NodeF nr32 r32) (by repeat (first | exact mz | apply ms))) (.cons _ _ _ _ (hF (NodeF nr34 r34) (by repeat (first | exact mz | apply ms))) .nil)))) (fun p hp=>by first | exact absurd hp List.not_mem_nil | (simp at hp; simp [hp])) fun r36=>?_
          (with_reducible repeat (first | refine sA ?_ | refine sB ?_ | refine sC ?_ | refine sD ?_ | refine sE ?_ | refine sF ?_))
          exact av (t:=tP) _ rfl (fun F hF=>hF _ (by repeat (first | exact mz | apply ms)))
         ·skip
          (with_reducible repeat (first | refine sA ?_ | refine sB ?_ | refine sC ?_ | refine sD ?_ | refine sE ?_ | refine sF ?_))
          first | refine ag (az _ _) (fun _ h=>nomatch h) fun r37 b=>Sim.prop fun h=>?_ | refine af (az _ _) (fun _ h=>nomatch h) fun r37 b=>Sim.prop fun h=>?_
          subst h
          (with_reducible repeat (first | refine sA ?_ | refine sB ?_ | refine sC ?_ | refine sD ?_ | refine sE ?_ | refine sF ?_))
          (first | refine qA (fun h=>?_) fun h=>?_ | refine qB (fun h=>?_) fun h=>?_ | refine qC (fun h=>?_) fun h=>?_ | refine qD (fun h=>?_) fun h=>?_ | refine qE (fun h=>?_) fun h=>?_) -- r37
          ·skip
           (with_reducible repeat (first | refine sA ?_ | refine sB ?_ | refine sC ?_ | refine sD ?_ | refine sE ?_ | refine sF ?_))
           first | refine ag (ch _) (fun _ h=>nomatch h) fun r38 b=>Sim.prop fun h=>?_ | refine af (ch _) (fun _ h=>nomatch h) fun r38 b=>Sim.prop fun h=>?_
           subst h
           (with_reducible repeat (first | refine sA ?_ | refine sB ?_ | refine sC ?_ | refine sD ?_ | refine sE ?_ | refine sF ?_))
           first | refine ag (jF hR _) (fun _ h=>nomatch h) fun r39 nr39=>?_ | refine af (jF hR _) (fun _ h=>nomatch h) fun r39 nr39=>?_
           (with_reducible repeat (first | refine sA ?_ | refine sB ?_ | refine sC ?_ | refine sD ?_ | refine sE ?_ | refine sF ?_))
           first | refine ag (aJ _ _) (fun _ h=>nomatch h) fun x b=>?_ | refine af (aJ _ _) (fun _ h=>nomatch h) fun x b=>?_
           (with_reducible repeat (first | refine sA ?_ | refine sB ?_ | refine sC ?_ | refine sD ?_ | refine sE ?_ | refine sF ?_))
           first | refine ag (hR.typed _) (fun _ h=>nomatch h) fun r41 nr41=>?_ | refine af (hR.typed _) (fun _ h=>nomatch h) fun r41 nr41=>?_
           (with_reducible repeat (first | refine sA ?_ | refine sB ?_ | refine sC ?_ | refine sD ?_ | refine sE ?_ | refine sF ?_))
           first | refine ag (aJ _ _) (fun _ h=>nomatch h) fun x b=>?_ | refine af (aJ _ _) (fun _ h=>nomatch h) fun x b=>?_
           refine aS (b1:=.int .i64) _ (by repeat (first | exact mz | apply ms)) (by kernel_rfl) rfl rfl ?_
           refine ca [r39,r41] [nr39,nr41] rfl (by decide) (by decide) (by kernel_rfl) (fun F hF=>(.cons _ _ _ _ (hF (NodeF nr39 r39) (by repeat (first | exact mz | apply ms))) (.cons _ _ _ _ (hF (NodeF nr41 r41) (by repeat (first | exact mz | apply ms))) .nil))) fun r45=>?_
           (with_reducible repeat (first | refine sA ?_ | refine sB ?_ | refine sC ?_ | refine sD ?_ | refine sE ?_ | refine sF ?_))
           exact av (t:=tP) _ rfl (fun F hF=>hF _ (by repeat (first | exact mz | apply ms)))
          ·skip
           (with_reducible repeat (first | refine sA ?_ | refine sB ?_ | refine sC ?_ | refine sD ?_ | refine sE ?_ | refine sF ?_))
           exact av (t:=tP) none rfl (fun F _=>rfl)
set_option maxHeartbeats 2000000 in
theorem C2 {R:a6} (hR:cJ R) (pb:Nat):Meets PG (PI pb) (aa dI #[.pointer (some (aR pb))]) tP (iP R) NodeF []:=by
 refine sh (aR pb) ?_
 unfold iI iP
 (with_reducible repeat (first | refine sA ?_ | refine sB ?_ | refine sC ?_ | refine sD ?_ | refine sE ?_ | refine sF ?_))
 first | refine ag (bk _) (fun _ h=>nomatch h) fun r1 b=>Sim.prop fun h=>?_ | refine af (bk _) (fun _ h=>nomatch h) fun r1 b=>Sim.prop fun h=>?_
 subst h
 refine gB (c:=true) (z:=[.int .i64 0,.string kE,.int .i64 0,.int .i64 0]) (by kernel_rfl) (by kernel_rfl) rfl (by simp [Value.cells,Value.oneCell']) fun br2=>?_
 refine aS (b1:=.int .i64) _ (by repeat (first | exact mz | apply ms)) (by kernel_rfl) rfl rfl ?_
 refine fI (fT R r1) ?_ ?_
 ·skip
  (with_reducible repeat (first | refine sA ?_ | refine sB ?_ | refine sC ?_ | refine sD ?_ | refine sE ?_ | refine sF ?_))
  (first | refine qA (fun h=>?_) fun h=>?_ | refine qB (fun h=>?_) fun h=>?_ | refine qC (fun h=>?_) fun h=>?_ | refine qD (fun h=>?_) fun h=>?_ | refine qE (fun h=>?_) fun h=>?_) -- ((r4:Int)==2)
  ·skip
   refine ow (bs:=el) r1 (by repeat (first | exact mz | apply ms)) (by kernel_rfl) rfl rfl ?_
   refine ag (ri hR _ _) (fun _ h=>nomatch h) fun r6 o6=>?_
   cases o6 with
   | none =>
    refine Sim.prop fun hp=>?_
    subst hp
    refine zL (by kernel_rfl) (qE (fun h=>by cases h) (fun h=>?_))
    exact gI rfl rfl
   | some n6 =>
    refine jG (n:=n6) (x:=r6) (List.mem_cons_self ..) fun b6 sl6 h6=>?_
    refine zL (by kernel_rfl) (qE (fun h=>?_) (fun h=>by rw [h6] at h; cases h))
    exact av (t:=tP) _ rfl (fun F hF=>hF (NodeF n6 r6) (List.mem_cons_of_mem _ (List.mem_cons_self ..)))
  ·skip
   exact gI rfl rfl
 ·unfold fT
  (with_reducible repeat (first | refine sA ?_ | refine sB ?_ | refine sC ?_ | refine sD ?_ | refine sE ?_ | refine sF ?_))
  first | refine ag (cr _ _) (fun _ h=>nomatch h) fun r9 b=>Sim.prop fun h=>?_ | refine af (cr _ _) (fun _ h=>nomatch h) fun r9 b=>Sim.prop fun h=>?_
  subst h
  (with_reducible repeat (first | refine sA ?_ | refine sB ?_ | refine sC ?_ | refine sD ?_ | refine sE ?_ | refine sF ?_))
  (first | refine qA (fun h=>?_) fun h=>?_ | refine qB (fun h=>?_) fun h=>?_ | refine qC (fun h=>?_) fun h=>?_ | refine qD (fun h=>?_) fun h=>?_ | refine qE (fun h=>?_) fun h=>?_) -- r9
  ·skip
   (with_reducible repeat (first | refine sA ?_ | refine sB ?_ | refine sC ?_ | refine sD ?_ | refine sE ?_ | refine sF ?_))
   first | refine ag (hR.block _) (fun _ h=>nomatch h) fun r10 nr10=>?_ | refine af (hR.block _) (fun _ h=>nomatch h) fun r10 nr10=>?_
   (with_reducible repeat (first | refine sA ?_ | refine sB ?_ | refine sC ?_ | refine sD ?_ | refine sE ?_ | refine sF ?_))
   exact av (t:=tP) _ rfl (fun F hF=>hF _ (by repeat (first | exact mz | apply ms)))
  ·skip
   (with_reducible repeat (first | refine sA ?_ | refine sB ?_ | refine sC ?_ | refine sD ?_ | refine sE ?_ | refine sF ?_))
   first | refine ag (az _ _) (fun _ h=>nomatch h) fun r11 b=>Sim.prop fun h=>?_ | refine af (az _ _) (fun _ h=>nomatch h) fun r11 b=>Sim.prop fun h=>?_
   subst h
   (with_reducible repeat (first | refine sA ?_ | refine sB ?_ | refine sC ?_ | refine sD ?_ | refine sE ?_ | refine sF ?_))
   (first | refine qA (fun h=>?_) fun h=>?_ | refine qB (fun h=>?_) fun h=>?_ | refine qC (fun h=>?_) fun h=>?_ | refine qD (fun h=>?_) fun h=>?_ | refine qE (fun h=>?_) fun h=>?_) -- r11
   ·skip
    refine aS (b1:=.int .i64) _ (by repeat (first | exact mz | apply ms)) (by kernel_rfl) rfl rfl ?_
    refine fO fun r13=>?_
    (with_reducible repeat (first | refine sA ?_ | refine sB ?_ | refine sC ?_ | refine sD ?_ | refine sE ?_ | refine sF ?_))
    exact av (t:=tP) _ rfl (fun F hF=>hF _ (by repeat (first | exact mz | apply ms)))
   ·skip
    (with_reducible repeat (first | refine sA ?_ | refine sB ?_ | refine sC ?_ | refine sD ?_ | refine sE ?_ | refine sF ?_))
    first | refine ag (cr _ _) (fun _ h=>nomatch h) fun r14 b=>Sim.prop fun h=>?_ | refine af (cr _ _) (fun _ h=>nomatch h) fun r14 b=>Sim.prop fun h=>?_
    subst h
    (with_reducible repeat (first | refine sA ?_ | refine sB ?_ | refine sC ?_ | refine sD ?_ | refine sE ?_ | refine sF ?_))
    (first | refine qA (fun h=>?_) fun h=>?_ | refine qB (fun h=>?_) fun h=>?_ | refine qC (fun h=>?_) fun h=>?_ | refine qD (fun h=>?_) fun h=>?_ | refine qE (fun h=>?_) fun h=>?_) -- r14
    ·skip
     (with_reducible repeat (first | refine sA ?_ | refine sB ?_ | refine sC ?_ | refine sD ?_ | refine sE ?_ | refine sF ?_))
     first | refine ag (uQ hR _) (fun _ h=>nomatch h) fun r15 nr15=>?_ | refine af (uQ hR _) (fun _ h=>nomatch h) fun r15 nr15=>?_
     (with_reducible repeat (first | refine sA ?_ | refine sB ?_ | refine sC ?_ | refine sD ?_ | refine sE ?_ | refine sF ?_))
     exact av (t:=tP) _ rfl (fun F hF=>hF _ (by repeat (first | exact mz | apply ms)))
    ·skip
     (with_reducible repeat (first | refine sA ?_ | refine sB ?_ | refine sC ?_ | refine sD ?_ | refine sE ?_ | refine sF ?_))
     first | refine ag (az _ _) (fun _ h=>nomatch h) fun r16 b=>Sim.prop fun h=>?_ | refine af (az _ _) (fun _ h=>nomatch h) fun r16 b=>Sim.prop fun h=>?_
     subst h
     (with_reducible repeat (first | refine sA ?_ | refine sB ?_ | refine sC ?_ | refine sD ?_ | refine sE ?_ | refine sF ?_))
     (first | refine qA (fun h=>?_) fun h=>?_ | refine qB (fun h=>?_) fun h=>?_ | refine qC (fun h=>?_) fun h=>?_ | refine qD (fun h=>?_) fun h=>?_ | refine qE (fun h=>?_) fun h=>?_) -- r16
     ·skip
      (with_reducible repeat (first | refine sA ?_ | refine sB ?_ | refine sC ?_ | refine sD ?_ | refine sE ?_ | refine sF ?_))
      first | refine ag (te hR _) (fun _ h=>nomatch h) fun r17 nr17=>?_ | refine af (te hR _) (fun _ h=>nomatch h) fun r17 nr17=>?_
      refine dD [] (fun _ h=>nomatch h) ?_
      refine df (b1:=.int .i64) _ (by repeat (first | exact mz | apply ms)) (by kernel_rfl) rfl rfl ?_
      (with_reducible repeat (first | refine sA ?_ | refine sB ?_ | refine sC ?_ | refine sD ?_ | refine sE ?_ | refine sF ?_))
      first | refine ef (hR.block _) (fun _ h=>nomatch h) fun r19 nr19=>?_ | refine iN (hR.block _) (fun _ h=>nomatch h) fun r19 nr19=>?_
      refine e9 [r17,r19] [nr17,nr19] rfl (by decide) (by decide) (by kernel_rfl) (fun F hF=>(.cons _ _ _ _ (hF (NodeF nr17 r17) (by repeat (first | exact mz | apply ms))) (.cons _ _ _ _ (hF (NodeF nr19 r19) (by repeat (first | exact mz | apply ms))) .nil))) (fun p hp=>by first | exact absurd hp List.not_mem_nil | (simp at hp; simp [hp])) fun r21=>?_
      (with_reducible repeat (first | refine sA ?_ | refine sB ?_ | refine sC ?_ | refine sD ?_ | refine sE ?_ | refine sF ?_))
      exact av (t:=tP) _ rfl (fun F hF=>hF _ (by repeat (first | exact mz | apply ms)))
     ·skip
      (with_reducible repeat (first | refine sA ?_ | refine sB ?_ | refine sC ?_ | refine sD ?_ | refine sE ?_ | refine sF ?_))
      first | refine ag (az _ _) (fun _ h=>nomatch h) fun r22 b=>Sim.prop fun h=>?_ | refine af (az _ _) (fun _ h=>nomatch h) fun r22 b=>Sim.prop fun h=>?_
      subst h
      (with_reducible repeat (first | refine sA ?_ | refine sB ?_ | refine sC ?_ | refine sD ?_ | refine sE ?_ | refine sF ?_))
      (first | refine qA (fun h=>?_) fun h=>?_ | refine qB (fun h=>?_) fun h=>?_ | refine qC (fun h=>?_) fun h=>?_ | refine qD (fun h=>?_) fun h=>?_ | refine qE (fun h=>?_) fun h=>?_) -- r22
      ·skip
       refine aS (b1:=.int .i64) _ (by repeat (first | exact mz | apply ms)) (by kernel_rfl) rfl rfl ?_
       (with_reducible repeat (first | refine sA ?_ | refine sB ?_ | refine sC ?_ | refine sD ?_ | refine sE ?_ | refine sF ?_))
       first | refine ag (FK hR _ _) (fun _ h=>nomatch h) fun r24 nr24=>?_ | refine af (FK hR _ _) (fun _ h=>nomatch h) fun r24 nr24=>?_
       (with_reducible repeat (first | refine sA ?_ | refine sB ?_ | refine sC ?_ | refine sD ?_ | refine sE ?_ | refine sF ?_))
       exact av (t:=tP) _ rfl (fun F hF=>hF _ (by repeat (first | exact mz | apply ms)))
      ·skip
       (with_reducible repeat (first | refine sA ?_ | refine sB ?_ | refine sC ?_ | refine sD ?_ | refine sE ?_ | refine sF ?_))
       first | refine ag (az _ _) (fun _ h=>nomatch h) fun r25 b=>Sim.prop fun h=>?_ | refine af (az _ _) (fun _ h=>nomatch h) fun r25 b=>Sim.prop fun h=>?_
       subst h
       (with_reducible repeat (first | refine sA ?_ | refine sB ?_ | refine sC ?_ | refine sD ?_ | refine sE ?_ | refine sF ?_))
       (first | refine qA (fun h=>?_) fun h=>?_ | refine qB (fun h=>?_) fun h=>?_ | refine qC (fun h=>?_) fun h=>?_ | refine qD (fun h=>?_) fun h=>?_ | refine qE (fun h=>?_) fun h=>?_) -- r25
       ·skip
        refine aS (b1:=.int .i64) _ (by repeat (first | exact mz | apply ms)) (by kernel_rfl) rfl rfl ?_
        (with_reducible repeat (first | refine sA ?_ | refine sB ?_ | refine sC ?_ | refine sD ?_ | refine sE ?_ | refine sF ?_))
        first | refine ag (nQ hR _ _ _ _) (fun _ h=>nomatch h) fun r27 nr27=>?_ | refine af (nQ hR _ _ _ _) (fun _ h=>nomatch h) fun r27 nr27=>?_
        (with_reducible repeat (first | refine sA ?_ | refine sB ?_ | refine sC ?_ | refine sD ?_ | refine sE ?_ | refine sF ?_))
        exact av (t:=tP) _ rfl (fun F hF=>hF _ (by repeat (first | exact mz | apply ms)))
       ·skip
        (with_reducible repeat (first | refine sA ?_ | refine sB ?_ | refine sC ?_ | refine sD ?_ | refine sE ?_ | refine sF ?_))
        first | refine ag (az _ _) (fun _ h=>nomatch h) fun r28 b=>Sim.prop fun h=>?_ | refine af (az _ _) (fun _ h=>nomatch h) fun r28 b=>Sim.prop fun h=>?_
        subst h
        (with_reducible repeat (first | refine sA ?_ | refine sB ?_ | refine sC ?_ | refine sD ?_ | refine sE ?_ | refine sF ?_))
        (first | refine qA (fun h=>?_) fun h=>?_ | refine qB (fun h=>?_) fun h=>?_ | refine qC (fun h=>?_) fun h=>?_ | refine qD (fun h=>?_) fun h=>?_ | refine qE (fun h=>?_) fun h=>?_) -- r28
        ·skip
         refine aS (b1:=.int .i64) _ (by repeat (first | exact mz | apply ms)) (by kernel_rfl) rfl rfl ?_
         (with_reducible repeat (first | refine sA ?_ | refine sB ?_ | refine sC ?_ | refine sD ?_ | refine sE ?_ | refine sF ?_))
         first | refine ag (nQ hR _ _ _ _) (fun _ h=>nomatch h) fun r30 nr30=>?_ | refine af (nQ hR _ _ _ _) (fun _ h=>nomatch h) fun r30 nr30=>?_
         (with_reducible repeat (first | refine sA ?_ | refine sB ?_ | refine sC ?_ | refine sD ?_ | refine sE ?_ | refine sF ?_))
         exact av (t:=tP) _ rfl (fun F hF=>hF _ (by repeat (first | exact mz | apply ms)))
        ·skip
         (with_reducible repeat (first | refine sA ?_ | refine sB ?_ | refine sC ?_ | refine sD ?_ | refine sE ?_ | refine sF ?_))
         first | refine ag (az _ _) (fun _ h=>nomatch h) fun r31 b=>Sim.prop fun h=>?_ | refine af (az _ _) (fun _ h=>nomatch h) fun r31 b=>Sim.prop fun h=>?_
         subst h
         (with_reducible repeat (first | refine sA ?_ | refine sB ?_ | refine sC ?_ | refine sD ?_ | refine sE ?_ | refine sF ?_))
         (first | refine qA (fun h=>?_) fun h=>?_ | refine qB (fun h=>?_) fun h=>?_ | refine qC (fun h=>?_) fun h=>?_ | refine qD (fun h=>?_) fun h=>?_ | refine qE (fun h=>?_) fun h=>?_) -- r31
         ·skip
          (with_reducible repeat (first | refine sA ?_ | refine sB ?_ | refine sC ?_ | refine sD ?_ | refine sE ?_ | refine sF ?_))
          first | refine ag (aJ _ _) (fun _ h=>nomatch h) fun x b=>?_ | refine af (aJ _ _) (fun _ h=>nomatch h) fun x b=>?_
          refine aS (b1:=.int .i64) _ (by repeat (first | exact mz | apply ms)) (by kernel_rfl) rfl rfl ?_
          refine fO fun r34=>?_
          (with_reducible repeat (first | refine sA ?_ | refine sB ?_ | refine sC ?_ | refine sD ?_ | refine sE ?_ | refine sF ?_))
          exact av (t:=tP) _ rfl (fun F hF=>hF _ (by repeat (first | exact mz | apply ms)))
         ·skip
          (with_reducible repeat (first | refine sA ?_ | refine sB ?_ | refine sC ?_ | refine sD ?_ | refine sE ?_ | refine sF ?_))
          first | refine ag (az _ _) (fun _ h=>nomatch h) fun r35 b=>Sim.prop fun h=>?_ | refine af (az _ _) (fun _ h=>nomatch h) fun r35 b=>Sim.prop fun h=>?_
          subst h
          (with_reducible repeat (first | refine sA ?_ | refine sB ?_ | refine sC ?_ | refine sD ?_ | refine sE ?_ | refine sF ?_))
          (first | refine qA (fun h=>?_) fun h=>?_ | refine qB (fun h=>?_) fun h=>?_ | refine qC (fun h=>?_) fun h=>?_ | refine qD (fun h=>?_) fun h=>?_ | refine qE (fun h=>?_) fun h=>?_) -- r35
          ·skip
           (with_reducible repeat (first | refine sA ?_ | refine sB ?_ | refine sC ?_ | refine sD ?_ | refine sE ?_ | refine sF ?_))
           first | refine ag (aJ _ _) (fun _ h=>nomatch h) fun x b=>?_ | refine af (aJ _ _) (fun _ h=>nomatch h) fun x b=>?_
           refine aS (b1:=.int .i64) _ (by repeat (first | exact mz | apply ms)) (by kernel_rfl) rfl rfl ?_
           refine fO fun r38=>?_
           (with_reducible repeat (first | refine sA ?_ | refine sB ?_ | refine sC ?_ | refine sD ?_ | refine sE ?_ | refine sF ?_))
           exact av (t:=tP) _ rfl (fun F hF=>hF _ (by repeat (first | exact mz | apply ms)))
          ·skip
           (with_reducible repeat (first | refine sA ?_ | refine sB ?_ | refine sC ?_ | refine sD ?_ | refine sE ?_ | refine sF ?_))
           first | refine ag (az _ _) (fun _ h=>nomatch h) fun r39 b=>Sim.prop fun h=>?_ | refine af (az _ _) (fun _ h=>nomatch h) fun r39 b=>Sim.prop fun h=>?_
           subst h
           (with_reducible repeat (first | refine sA ?_ | refine sB ?_ | refine sC ?_ | refine sD ?_ | refine sE ?_ | refine sF ?_))
           (first | refine qA (fun h=>?_) fun h=>?_ | refine qB (fun h=>?_) fun h=>?_ | refine qC (fun h=>?_) fun h=>?_ | refine qD (fun h=>?_) fun h=>?_ | refine qE (fun h=>?_) fun h=>?_) -- r39
           ·skip
            refine aS (b1:=.int .i64) _ (by repeat (first | exact mz | apply ms)) (by kernel_rfl) rfl rfl ?_
            (with_reducible repeat (first | refine sA ?_ | refine sB ?_ | refine sC ?_ | refine sD ?_ | refine sE ?_ | refine sF ?_))
            first | refine ag (Ig hR _ _) (fun _ h=>nomatch h) fun r41 nr41=>?_ | refine af (Ig hR _ _) (fun _ h=>nomatch h) fun r41 nr41=>?_
            (with_reducible repeat (first | refine sA ?_ | refine sB ?_ | refine sC ?_ | refine sD ?_ | refine sE ?_ | refine sF ?_))
            exact av (t:=tP) _ rfl (fun F hF=>hF _ (by repeat (first | exact mz | apply ms)))
           ·skip
            refine aS (b1:=.int .i64) _ (by repeat (first | exact mz | apply ms)) (by kernel_rfl) rfl rfl ?_
            (with_reducible repeat (first | refine sA ?_ | refine sB ?_ | refine sC ?_ | refine sD ?_ | refine sE ?_ | refine sF ?_))
            first | refine ag (nQ hR _ _ _ _) (fun _ h=>nomatch h) fun r43 nr43=>?_ | refine af (nQ hR _ _ _ _) (fun _ h=>nomatch h) fun r43 nr43=>?_
            (with_reducible repeat (first | refine sA ?_ | refine sB ?_ | refine sC ?_ | refine sD ?_ | refine sE ?_ | refine sF ?_))
            exact av (t:=tP) _ rfl (fun F hF=>hF _ (by repeat (first | exact mz | apply ms)))
end Go.Proofs.YtjlgcpgjdgeejaaGreatDoor
end

section
namespace Go.Proofs.YtjlgcpgjdgeejaaGreatDoor
open Go
set_option maxRecDepth 100000
theorem gy {β:Type} {t:Ty} {Rel:β→t.den→Fact} {s0:Sem Next} {I:aN Int PSt}:Meets PG I s0 t (Sp.stop:PM β) Rel []:=fun r w F H st res hs=>by cases hs
theorem HJ (hnum:Fh):∀ n,n≤549755813888→cJ (de n):=by
 intro n
 induction n with
 | zero=>exact fun _=>⟨Nat.zero_le _,hnum,fun _=>gy,fun _=>gy,fun _=>gy,fun _=>gy,fun _=>gy,fun _=>gy,fun _ _=>gy⟩
 | succ n ih =>
  intro h
  have hR:=ih (by omega)
  have hf:(de (n+1)).fuel=n+1:=by
   have:∀ n,(de n).fuel=n:=fun n=>by induction n with
    | zero=>rfl
    | succ n ih=>show (de n).fuel+1=n+1; rw [ih]
   exact this _
  exact ⟨by rw [hf]; exact h,hnum,fun pb=>KC hR pb,fun pb=>Jo hR pb,fun pb=>IN hR pb,fun pb=>DC hR pb,fun pb=>uQ hR pb,fun pb=>C2 hR pb,fun pb t=>ri hR pb t⟩
end Go.Proofs.YtjlgcpgjdgeejaaGreatDoor
end

section
namespace Go.Proofs.YtjlgcpgjdgeejaaGreatDoor
open Go
set_option linter.unusedSimpArgs false
set_option linter.unusedVariables false
set_option linter.constructorNameAsVariable false
theorem Buf.open {e:TypeId} {size:Nat} {x:aV} {xs:List Value} {K:ak} (h:Buf e size x xs K) (hp:0 < x.2.1) :
  ∃ g cells,K=[(g,ap e cells)]∧x.1=some ⟨g,0,none⟩∧xs.length=x.2.1 * size∧x.2.1≤x.2.2∧x.2.2≤maxLen∧cells.length=x.2.2 * size∧cells.take (x.2.1 * size)=xs:=by
 rcases h with ⟨_,rfl,_⟩ | h
 ·simp at hp
 ·exact h
theorem Buf.take {e:TypeId} {size m:Nat} {x:aV} {xs:List Value} {K:ak} (h:Buf e size x xs K) (hm:m≤x.2.1):Buf e size (x.1,m,x.2.2) (xs.take (m * size)) K:=by
 rcases h with ⟨rfl,rfl,rfl⟩ | ⟨g,cells,h1,h2,h3,h4,h5,h6,h7⟩
 ·have:m=0:=by simpa using hm
  subst this
  exact .inl ⟨rfl,rfl,by simp⟩
 ·refine .inr ⟨g,cells,h1,h2,?_,Nat.le_trans hm h4,h5,h6,?_⟩
  ·have:=Nat.mul_le_mul_right size hm
   simp only [List.length_take,h3]; omega
  ·show cells.take (m * size)=_
   have:=Nat.mul_le_mul_right size hm
   rw [← h7,List.take_take,Nat.min_eq_left this]
theorem Buf.row {e:TypeId} {size i:Nat} {x:aV} {cells xs:List Value} (h7:cells.take (x.2.1 * size)=xs) (hi:i < x.2.1):(cells.drop (i * size)).take size=(xs.drop (i * size)).take size:=by
 rw [← h7,List.drop_take,List.take_take]
 congr 1
 have:i * size+size≤x.2.1 * size:=by rw [← Nat.succ_mul]; exact Nat.mul_le_mul_right _ hi
 omega
theorem vG (l:List Value) (o:Nat) (vs:List Value) (h:o+vs.length≤l.length):(bW l o vs).length=l.length:=by
 simp [bW]; omega
theorem Du (l:List Value) (o n:Nat) (vs:List Value) (h:o+vs.length≤n) (hn:n≤l.length):(bW l o vs).take n=bW (l.take n) o vs:=by
 unfold bW
 rw [List.take_append,List.take_append,List.take_of_length_le (l:=l.take o) (by simp; omega),List.take_of_length_le (l:=vs) (by simp; omega),List.take_take,Nat.min_eq_left (by omega),List.drop_take]
 congr 1
 congr 1
 simp; omega
theorem Buf.set {e:TypeId} {size o:Nat} {x:aV} {xs vs cells:List Value} {g:Nat} (h2:x.1=some ⟨g,0,none⟩) (h3:xs.length=x.2.1 * size) (h4:x.2.1≤x.2.2) (h5:x.2.2≤maxLen) (h6:cells.length=x.2.2 * size) (h7:cells.take (x.2.1 * size)=xs)
  (ho:o+vs.length≤x.2.1 * size):Buf e size x (bW xs o vs) [(g,ap e (bW cells o vs))]:=by
 have hle:x.2.1 * size≤cells.length:=by rw [h6]; exact Nat.mul_le_mul_right _ h4
 refine .inr ⟨g,_,rfl,h2,?_,h4,h5,?_,?_⟩
 ·rw [vG _ _ _ (by omega),h3]
 ·rw [vG _ _ _ (by omega),h6]
 ·rw [Du _ _ _ _ ho hle,h7]
theorem Ci {P:Program} {t:TypeId} {a:Option Addr} {len cap:Nat} {k:IntKind} {h:Int} {w:World} (hu:P.underlying t=some (.slice (P.elem t))) (hs:∃ i,P.info? (P.elem t)=some i) (ha:∀ b,a=some b→b.spot=none) (h0:0≤h) (h2:h≤cap) :
  (fV t (.slice a len cap) none (some (.int k h)) none).run P w=.ok (.value (.slice a h.toNat cap)) w:=by
 obtain ⟨i,hi⟩:=hs
 have:(Instr.sliceAt t (.slice a len cap) none (some (.int k h)) none).run P w=.ok (.slice a h.toNat cap) w:=by
  rw [run_sliceAt_slice w t _ _ _ _ hu,run_slice_h w t a len cap hu k h h0 h2]
  simp only [sizeOf,typeInfo,Sem.run_bind,run_program,Result.andThen_ok,hi,Sem.run_pure,sliced,Nat.sub_zero]
  congr 2
  split
  ·rfl
  ·cases a with
   | none=>rfl
   | some b =>
    obtain ⟨bb,bo,bs⟩:=b
    have:bs=none:=ha _ rfl
    subst this
    simp [Addr.add]
 simp [fV,cG,this]
end Go.Proofs.YtjlgcpgjdgeejaaGreatDoor
end
