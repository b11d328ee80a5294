/- A part of the claim: general tools, trees of the program, and what its functions come to (TrL to SpDefs). Conditions: as its theorems say. -/
import Derived.Test.YtjlgcpgjdgeejaaGreatDoorClD
import Derived.Laws.MakeOwn
import Derived.Test.YtjlgcpgjdgeejaaGreatDoorProg

section
namespace Go.Proofs.YtjlgcpgjdgeejaaGreatDoor
open Go
set_option linter.unusedVariables false
set_option maxRecDepth 100000
noncomputable section
def wR:An :=
 .s (.r [none,none,none]) (.s (.r [some ah,some tV,some ah,some tV,none,none]) (.s (.r [some ah,some tV,some tV,some tV,none,none]) (.s (.r [some tV,some ah,some tV,some tV,some tV,none,none,none]) (.s (.r [none,some tV,none,some tV,none,none]) (.s (.r [none]) (.s (.r [none]) (.s (.s (.r [none]) (.b (.s (.s (.r [none,none]) (.j [(34,.b .bool)] (.c (.x) (.s (.r [none,none]) (.c (.x) (.s (.r [none,none]) (.c (.x) (.s (.r [none,none]) (.c (.x) (.s (.r [none,none]) (.c (.x) (.s (.r [none,none]) (.c (.x) (.s (.r [none,none]) (.c (.x) (.s (.r [none,none]) (.c (.x) (.s (.r [none,none]) (.c (.x) (.s (.r [none,none]) (.c (.x) (.s (.r [none,none]) (.c (.x) (.s (.r [none,none]) (.c (.x) (.s (.r [none,none]) (.c (.x) (.s (.r [none,none]) (.c (.x) (.s (.r [none,none]) (.c (.x) (.r [none,none])))))))))))))))))))))))))))))))) (.c (.s (.r [none,some (.tup [.b .slice,.b .bool,.b .bool]),none,none,none,none,none,none]) (.x)) (.s (.r [none,none]) (.c (.s (.r [none,some (.tup [.b .slice,.b .bool,.b .bool]),none,none,none,none,none,none]) (.x)) (.s (.s (.r [none,none]) (.j [(63,.b .bool)] (.c (.x) (.r [none,none])))) (.c (.s (.r [none,some (.tup [.b .slice,.b .bool,.b .bool]),none,none,none,none,none,none]) (.x)) (.s (.r [none,none]) (.c (.s (.r [none,some (.tup [.b .slice,.b .bool,.b .bool]),none,none,none,none,none,none]) (.x)) (.s (.r [none,none]) (.c (.s (.r [none,some ah,some tV,some (.tup [.b .slice,.b .bool,.b .bool]),none,none,none,none,none,none]) (.x)) (.s (.s (.r [none,none]) (.j [(87,.b .bool)] (.c (.x) (.s (.r [none,none]) (.c (.x) (.s (.r [none,none]) (.c (.x) (.s (.r [none,none]) (.c (.x) (.s (.r [none,none]) (.c (.x) (.r [none,none])))))))))))) (.c (.s (.r [none,some ah,some (.tup [.b .slice,.b .bool,.b .bool]),none,none,none,none,none,none]) (.x)) (.s (.r [none,none]) (.c (.s (.r [none,none,none,none,some tV,some ah,some (.tup [.b .slice,.b .bool,.b .bool]),none,none,none,none,none,none]) (.x)) (.s (.s (.r [none,none]) (.j [(112,.b .bool)] (.c (.x) (.r [none,none])))) (.c (.s (.r [none,some ah,some (.tup [.b .slice,.b .bool,.b .bool]),none,none,none,none,none,none]) (.x)) (.s (.r [none,none]) (.c (.s (.r [none,some ah,some (.tup [.b .slice,.b .bool,.b .bool]),none,none,none,none,none,none]) (.x)) (.s (.r [none,none]) (.c (.s (.r [none,some ah,some (.tup [.b .slice,.b .bool,.b .bool]),none,none,none,none,none,none]) (.x)) (.s (.r [none,none]) (.c (.s (.r [none,none,none,some ah,some (.tup [.b .slice,.b .bool,.b .bool]),none,none,none,none,none,none]) (.x)) (.s (.r [none,none]) (.c (.s (.r [none,none,none,some ah,some (.tup [.b .slice,.b .bool,.b .bool]),none,none,none,none,none,none]) (.x)) (.s (.r [none,none]) (.c (.s (.r [none,none,some ah,some (.tup [.b .slice,.b .bool,.b .bool]),none,none,none,none,none,none]) (.x)) (.s (.r [none,none]) (.c (.s (.r [none,some ah,some (.tup [.b .slice,.b .bool,.b .bool]),none,none,none,none,none,none]) (.x)) (.s (.r [none,none]) (.c (.s (.r [none,none,some ah,some (.tup [.b .slice,.b .bool,.b .bool]),none,none,none,none,none,none]) (.x)) (.s (.s (.r [none,none]) (.j [(183,.b .bool)] (.c (.x) (.r [none,none])))) (.c (.s (.r [none,none,none,none,none,some ah,some (.tup [.b .slice,.b .bool,.b .bool]),none,none,none,none,none,none]) (.x)) (.s (.r [none,none]) (.c (.s (.r [none,none,some ah,some tV,none,some tV,none,some ah,some (.tup [.b .slice,.b .bool,.b .bool]),none,none,none,none,none,none]) (.x)) (.s (.s (.r [none,none]) (.j [(210,.b .bool)] (.c (.x) (.r [none,none])))) (.c (.s (.r [none,none,some ah,some (.tup [.b .slice,.b .bool,.b .bool]),none,none,none,none,none,none]) (.x)) (.s (.r [none,none]) (.c (.s (.r [none,none,none,some ah,some (.tup [.b .slice,.b .bool,.b .bool]),none,none,none,none,none,none]) (.x)) (.s (.r [none,none]) (.c (.s (.r [none,some ah,some tV,some tV,none,some ah,some (.tup [.b .slice,.b .bool,.b .bool]),none,none,none,none,none,none]) (.x)) (.x))))))))))))))))))))))))))))))))))))))))))) (.s (.r [none,none,none,some (.tup [.b .slice,.b .bool,.b .bool]),none,none,none,none,none,none]) (.x)))))))))
def mv (a0_a0:Int):T :=
 .op (ar aM 1 #[(0,.int .i64 1)]) ah fun r1 =>
 .op (aa ca #[.slice r1.1 r1.2.1 r1.2.2]) tV fun r2 =>
 .op (ar aM 1 #[(0,.int .i64 63)]) ah fun r3 =>
 .op (aa ca #[.slice r3.1 r3.2.1 r3.2.2]) tV fun r4 =>
 .op (ar aM 1 #[(0,.int .i64 67)]) ah fun r5 =>
 .op (aa ca #[.slice r5.1 r5.2.1 r5.2.2]) tV fun r6 =>
 .op (aa cU #[r6]) tV fun r7 =>
 .op (aa cU #[.func (.func 121) #[] #[]]) tV fun r8 =>
 .op (aa cU #[.func (.func 78) #[] #[]]) tV fun r9 =>
 .op (ar aM 1 #[(0,.int .i64 80)]) ah fun r10 =>
 .op (aa ca #[.slice r10.1 r10.2.1 r10.2.2]) tV fun r11 =>
 .op (aa cU #[r11]) tV fun r12 =>
 .op (aa cU #[.func (.func 75) #[] #[]]) tV fun r13 =>
 .op (aa dz #[.func (.func 78) #[] #[],r2]) tV fun r14 =>
 .op (aa dz #[.func (.func 75) #[] #[],r2]) tV fun r15 =>
 .join 0 [.b .bool] (
 .ite ((a0_a0:Int)==1) (
 .out 0 [.bool true]) (
 .ite ((a0_a0:Int)==10) (
 .out 0 [.bool true]) (
 .ite ((a0_a0:Int)==11) (
 .out 0 [.bool true]) (
 .ite ((a0_a0:Int)==13) (
 .out 0 [.bool true]) (
 .ite ((a0_a0:Int)==14) (
 .out 0 [.bool true]) (
 .ite ((a0_a0:Int)==15) (
 .out 0 [.bool true]) (
 .ite ((a0_a0:Int)==16) (
 .out 0 [.bool true]) (
 .ite ((a0_a0:Int)==18) (
 .out 0 [.bool true]) (
 .ite ((a0_a0:Int)==17) (
 .out 0 [.bool true]) (
 .ite ((a0_a0:Int)==32) (
 .out 0 [.bool true]) (
 .ite ((a0_a0:Int)==58) (
 .out 0 [.bool true]) (
 .ite ((a0_a0:Int)==59) (
 .out 0 [.bool true]) (
 .ite ((a0_a0:Int)==65) (
 .out 0 [.bool true]) (
 .ite ((a0_a0:Int)==67) (
 .out 0 [.bool true]) (
 .ite ((a0_a0:Int)==81) (
 .out 0 [.bool true]) (
 .out 0 [.bool ((a0_a0:Int)==82)])))))))))))))))) fun x16 =>
 .ite x16.1 (
 .op (aK (.func (.func 124) #[] #[]) #[.slice none 0 0]) (.tup [.b .slice,.b .bool,.b .bool]) fun r17 =>
 .ret #[.v (.slice r17.1.1 r17.1.2.1 r17.1.2.2),.v (.bool r17.2.1),.v (.bool r17.2.2.1)]) (
 .ite ((a0_a0:Int)==2) (
 .op (aK (.func (.func 123) #[] #[]) #[.func (.func 125) #[] #[]]) (.tup [.b .slice,.b .bool,.b .bool]) fun r18 =>
 .ret #[.v (.slice r18.1.1 r18.1.2.1 r18.1.2.2),.v (.bool r18.2.1),.v (.bool r18.2.2.1)]) (
 .join 0 [.b .bool] (
 .ite ((a0_a0:Int)==3) (
 .out 0 [.bool true]) (
 .out 0 [.bool ((a0_a0:Int)==63)])) fun x19 =>
 .ite x19.1 (
 .op (aK (.func (.func 123) #[] #[]) #[.func (.func 126) #[] #[]]) (.tup [.b .slice,.b .bool,.b .bool]) fun r20 =>
 .ret #[.v (.slice r20.1.1 r20.1.2.1 r20.1.2.2),.v (.bool r20.2.1),.v (.bool r20.2.2.1)]) (
 .ite ((a0_a0:Int)==19) (
 .op (aK (.func (.func 123) #[] #[]) #[.func (.func 75) #[] #[]]) (.tup [.b .slice,.b .bool,.b .bool]) fun r21 =>
 .ret #[.v (.slice r21.1.1 r21.1.2.1 r21.1.2.2),.v (.bool r21.2.1),.v (.bool r21.2.2.1)]) (
 .ite ((a0_a0:Int)==20) (
 .op (ar aM 1 #[(0,.int .i64 21)]) ah fun r22 =>
 .op (aa ca #[.slice r22.1 r22.2.1 r22.2.2]) tV fun r23 =>
 .op (aK (.func (.func 123) #[] #[]) #[r23]) (.tup [.b .slice,.b .bool,.b .bool]) fun r24 =>
 .ret #[.v (.slice r24.1.1 r24.1.2.1 r24.1.2.2),.v (.bool r24.2.1),.v (.bool r24.2.2.1)]) (
 .join 0 [.b .bool] (
 .ite ((a0_a0:Int)==21) (
 .out 0 [.bool true]) (
 .ite ((a0_a0:Int)==23) (
 .out 0 [.bool true]) (
 .ite ((a0_a0:Int)==29) (
 .out 0 [.bool true]) (
 .ite ((a0_a0:Int)==34) (
 .out 0 [.bool true]) (
 .ite ((a0_a0:Int)==60) (
 .out 0 [.bool true]) (
 .out 0 [.bool ((a0_a0:Int)==64)])))))) fun x25 =>
 .ite x25.1 (
 .op (ar aU 1 #[(0,.func (.func 75) #[] #[])]) ah fun r26 =>
 .op (aK (.func (.func 124) #[] #[]) #[.slice r26.1 r26.2.1 r26.2.2]) (.tup [.b .slice,.b .bool,.b .bool]) fun r27 =>
 .ret #[.v (.slice r27.1.1 r27.1.2.1 r27.1.2.2),.v (.bool r27.2.1),.v (.bool r27.2.2.1)]) (
 .ite ((a0_a0:Int)==22) (
 .op (aa dz #[r4,.func (.func 75) #[] #[]]) tV fun r28 =>
 .op (ar aU 3 #[(0,r7),(1,r8),(2,r28)]) ah fun r29 =>
 .op (aK (.func (.func 124) #[] #[]) #[.slice r29.1 r29.2.1 r29.2.2]) (.tup [.b .slice,.b .bool,.b .bool]) fun r30 =>
 .ret #[.v (.slice r30.1.1 r30.1.2.1 r30.1.2.2),.v (.bool r30.2.1),.v (.bool r30.2.2.1)]) (
 .join 0 [.b .bool] (
 .ite ((a0_a0:Int)==24) (
 .out 0 [.bool true]) (
 .out 0 [.bool ((a0_a0:Int)==30)])) fun x31 =>
 .ite x31.1 (
 .op (ar aU 2 #[(0,.func (.func 75) #[] #[]),(1,.func (.func 75) #[] #[])]) ah fun r32 =>
 .op (aK (.func (.func 124) #[] #[]) #[.slice r32.1 r32.2.1 r32.2.2]) (.tup [.b .slice,.b .bool,.b .bool]) fun r33 =>
 .ret #[.v (.slice r33.1.1 r33.1.2.1 r33.1.2.2),.v (.bool r33.2.1),.v (.bool r33.2.2.1)]) (
 .ite ((a0_a0:Int)==25) (
 .op (ar aU 3 #[(0,.func (.func 75) #[] #[]),(1,.func (.func 75) #[] #[]),(2,.func (.func 75) #[] #[])]) ah fun r34 =>
 .op (aK (.func (.func 124) #[] #[]) #[.slice r34.1 r34.2.1 r34.2.2]) (.tup [.b .slice,.b .bool,.b .bool]) fun r35 =>
 .ret #[.v (.slice r35.1.1 r35.1.2.1 r35.1.2.2),.v (.bool r35.2.1),.v (.bool r35.2.2.1)]) (
 .ite ((a0_a0:Int)==26) (
 .op (ar aU 2 #[(0,.func (.func 127) #[] #[]),(1,.func (.func 75) #[] #[])]) ah fun r36 =>
 .op (aK (.func (.func 124) #[] #[]) #[.slice r36.1 r36.2.1 r36.2.2]) (.tup [.b .slice,.b .bool,.b .bool]) fun r37 =>
 .ret #[.v (.slice r37.1.1 r37.1.2.1 r37.1.2.2),.v (.bool r37.2.1),.v (.bool r37.2.2.1)]) (
 .ite ((a0_a0:Int)==27) (
 .op (ar aU 3 #[(0,.func (.func 75) #[] #[]),(1,r9),(2,r13)]) ah fun r38 =>
 .op (aK (.func (.func 124) #[] #[]) #[.slice r38.1 r38.2.1 r38.2.2]) (.tup [.b .slice,.b .bool,.b .bool]) fun r39 =>
 .ret #[.v (.slice r39.1.1 r39.1.2.1 r39.1.2.2),.v (.bool r39.2.1),.v (.bool r39.2.2.1)]) (
 .ite ((a0_a0:Int)==28) (
 .op (ar aU 3 #[(0,.func (.func 128) #[] #[]),(1,r9),(2,r13)]) ah fun r40 =>
 .op (aK (.func (.func 124) #[] #[]) #[.slice r40.1 r40.2.1 r40.2.2]) (.tup [.b .slice,.b .bool,.b .bool]) fun r41 =>
 .ret #[.v (.slice r41.1.1 r41.1.2.1 r41.1.2.2),.v (.bool r41.2.1),.v (.bool r41.2.2.1)]) (
 .ite ((a0_a0:Int)==31) (
 .op (ar aU 1 #[(0,r13)]) ah fun r42 =>
 .op (aK (.func (.func 124) #[] #[]) #[.slice r42.1 r42.2.1 r42.2.2]) (.tup [.b .slice,.b .bool,.b .bool]) fun r43 =>
 .ret #[.v (.slice r43.1.1 r43.1.2.1 r43.1.2.2),.v (.bool r43.2.1),.v (.bool r43.2.2.1)]) (
 .ite ((a0_a0:Int)==33) (
 .op (ar aU 2 #[(0,.func (.func 75) #[] #[]),(1,.func (.func 78) #[] #[])]) ah fun r44 =>
 .op (aK (.func (.func 124) #[] #[]) #[.slice r44.1 r44.2.1 r44.2.2]) (.tup [.b .slice,.b .bool,.b .bool]) fun r45 =>
 .ret #[.v (.slice r45.1.1 r45.1.2.1 r45.1.2.2),.v (.bool r45.2.1),.v (.bool r45.2.2.1)]) (
 .ite ((a0_a0:Int)==40) (
 .op (ar aU 2 #[(0,r14),(1,.func (.func 75) #[] #[])]) ah fun r46 =>
 .op (aK (.func (.func 124) #[] #[]) #[.slice r46.1 r46.2.1 r46.2.2]) (.tup [.b .slice,.b .bool,.b .bool]) fun r47 =>
 .ret #[.v (.slice r47.1.1 r47.1.2.1 r47.1.2.2),.v (.bool r47.2.1),.v (.bool r47.2.2.1)]) (
 .join 0 [.b .bool] (
 .ite ((a0_a0:Int)==41) (
 .out 0 [.bool true]) (
 .out 0 [.bool ((a0_a0:Int)==45)])) fun x48 =>
 .ite x48.1 (
 .op (ar aU 4 #[(0,r7),(1,r8),(2,r14),(3,r4)]) ah fun r49 =>
 .op (aK (.func (.func 124) #[] #[]) #[.slice r49.1 r49.2.1 r49.2.2]) (.tup [.b .slice,.b .bool,.b .bool]) fun r50 =>
 .ret #[.v (.slice r50.1.1 r50.1.2.1 r50.1.2.2),.v (.bool r50.2.1),.v (.bool r50.2.2.1)]) (
 .ite ((a0_a0:Int)==42) (
 .op (ar aM 1 #[(0,.int .i64 43)]) ah fun r51 =>
 .op (aa ca #[.slice r51.1 r51.2.1 r51.2.2]) tV fun r52 =>
 .op (aa dz #[r52,r2]) tV fun r53 =>
 .op (ar aU 4 #[(0,r7),(1,r53),(2,r12),(3,.func (.func 129) #[] #[])]) ah fun r54 =>
 .op (aK (.func (.func 124) #[] #[]) #[.slice r54.1 r54.2.1 r54.2.2]) (.tup [.b .slice,.b .bool,.b .bool]) fun r55 =>
 .ret #[.v (.slice r55.1.1 r55.1.2.1 r55.1.2.2),.v (.bool r55.2.1),.v (.bool r55.2.2.1)]) (
 .join 0 [.b .bool] (
 .ite ((a0_a0:Int)==43) (
 .out 0 [.bool true]) (
 .out 0 [.bool ((a0_a0:Int)==80)])) fun x56 =>
 .ite x56.1 (
 .op (ar aU 1 #[(0,r9)]) ah fun r57 =>
 .op (aK (.func (.func 124) #[] #[]) #[.slice r57.1 r57.2.1 r57.2.2]) (.tup [.b .slice,.b .bool,.b .bool]) fun r58 =>
 .ret #[.v (.slice r58.1.1 r58.1.2.1 r58.1.2.2),.v (.bool r58.2.1),.v (.bool r58.2.2.1)]) (
 .ite ((a0_a0:Int)==44) (
 .op (ar aU 2 #[(0,r14),(1,r15)]) ah fun r59 =>
 .op (aK (.func (.func 124) #[] #[]) #[.slice r59.1 r59.2.1 r59.2.2]) (.tup [.b .slice,.b .bool,.b .bool]) fun r60 =>
 .ret #[.v (.slice r60.1.1 r60.1.2.1 r60.1.2.2),.v (.bool r60.2.1),.v (.bool r60.2.2.1)]) (
 .ite ((a0_a0:Int)==46) (
 .op (ar aM 1 #[(0,.int .i64 66)]) ah fun r61 =>
 .op (aa ca #[.slice r61.1 r61.2.1 r61.2.2]) tV fun r62 =>
 .op (aa cU #[r62]) tV fun r63 =>
 .op (ar aU 2 #[(0,r63),(1,r4)]) ah fun r64 =>
 .op (aK (.func (.func 124) #[] #[]) #[.slice r64.1 r64.2.1 r64.2.2]) (.tup [.b .slice,.b .bool,.b .bool]) fun r65 =>
 .ret #[.v (.slice r65.1.1 r65.1.2.1 r65.1.2.2),.v (.bool r65.2.1),.v (.bool r65.2.2.1)]) (
 .op (aa oV #[.int .i64 a0_a0,.func (.func 124) #[] #[],.func (.func 123) #[] #[]]) (.tup [.b .slice,.b .bool,.b .bool]) fun r66 =>
 .ret #[.v (.slice r66.1.1 r66.1.2.1 r66.1.2.2),.v (.bool r66.2.1),.v (.bool r66.2.2.1)]))))))))))))))))))))
theorem AJ (a0_a0:Int):bh Tryz.prog Tryz.f79 wR [.int .i64 a0_a0]=mv a0_a0:=by kernel_rfl
theorem Aq {ε σ β:Type} {I:av ε σ} {t:Ty} {s:Sp ε σ β} {Rel:β→t.den→al→Fact} {Γ:List Fact} (a0_a0:Int) (h:Sim Tryz.prog I t Rel noLabel none (mv a0_a0) s [] Γ):MeetsO Tryz.prog I (aa mB #[.int .i64 a0_a0]) t s Rel Γ :=
 aj (args:=[.int .i64 a0_a0]) Tryz.func79 rfl rfl (Nat.le_of_ble_eq_true rfl) (by rw [AJ]; exact h)
def Cc:An :=
 .s (.r [none,none,none]) (.s (.r [some ah,some tV,some ah,some tV,none,none]) (.s (.r [none,some tV,none]) (.s (.s (.r [none]) (.b (.s (.r [none,none]) (.c (.s (.r [none,some ah,some tV,some (.tup [.b .slice,.b .bool,.b .bool]),none,none,none,none,none,none]) (.x)) (.s (.s (.r [none,none]) (.j [(28,.b .bool)] (.c (.x) (.r [none,none])))) (.c (.s (.r [none,none,some ah,some (.tup [.b .slice,.b .bool,.b .bool]),none,none,none,none,none,none]) (.x)) (.s (.r [none,none]) (.c (.s (.r [none,some ah,some tV,some tV,some (.tup [.b .slice,.b .bool,.b .bool]),none,none,none,none,none,none]) (.x)) (.s (.r [none,none]) (.c (.s (.r [none,some ah,some (.tup [.b .slice,.b .bool,.b .bool]),none,none,none,none,none,none]) (.x)) (.s (.r [none,none]) (.c (.s (.r [none,some ah,some tV,some tV,some ah,some tV,some tV,some ah,some tV,some ah,some (.tup [.b .slice,.b .bool,.b .bool]),none,none,none,none,none,none]) (.x)) (.s (.r [none,none]) (.c (.s (.r [none,some ah,some tV,some tV,some ah,some (.tup [.b .slice,.b .bool,.b .bool]),none,none,none,none,none,none]) (.x)) (.s (.r [none,none]) (.c (.s (.r [none,none,some ah,some tV,none,some tV,some ah,some (.tup [.b .slice,.b .bool,.b .bool]),none,none,none,none,none,none]) (.x)) (.s (.s (.r [none,none]) (.j [(96,.b .bool)] (.c (.x) (.r [none,none])))) (.c (.s (.r [none,none,some ah,some (.tup [.b .slice,.b .bool,.b .bool]),none,none,none,none,none,none]) (.x)) (.s (.r [none,none]) (.c (.s (.r [none,none,some tV,none,none,none,some ah,some (.tup [.b .slice,.b .bool,.b .bool]),none,none,none,none,none,none]) (.x)) (.s (.r [none,none]) (.c (.s (.r [none,none,some ah,some tV,none,some tV,none,none,some tV,some ah,some (.tup [.b .slice,.b .bool,.b .bool]),none,none,none,none,none,none]) (.x)) (.s (.r [none,none]) (.c (.s (.r [none,none,some ah,some (.tup [.b .slice,.b .bool,.b .bool]),none,none,none,none,none,none]) (.x)) (.s (.r [none,none]) (.c (.s (.r [none,none,some tV,some ah,some (.tup [.b .slice,.b .bool,.b .bool]),none,none,none,none,none,none]) (.x)) (.s (.s (.r [none,none]) (.j [(154,.b .bool)] (.c (.x) (.r [none,none])))) (.c (.s (.r [none,some ah,some (.tup [.b .slice,.b .bool,.b .bool]),none,none,none,none,none,none]) (.x)) (.s (.r [none,none]) (.c (.s (.r [none,some ah,some tV,some (.tup [.b .slice,.b .bool,.b .bool]),none,none,none,none,none,none]) (.x)) (.s (.r [none,none]) (.c (.s (.r [none,some tV,some ah,some (.tup [.b .slice,.b .bool,.b .bool]),none,none,none,none,none,none]) (.x)) (.x))))))))))))))))))))))))))))))))) (.s (.r [none,none,none]) (.x)))))
def oy (a0_a0:Int) (a1_a1:Value) (a2_a2:Value):T :=
 .op (ar aM 1 #[(0,.int .i64 1)]) ah fun r1 =>
 .op (aa ca #[.slice r1.1 r1.2.1 r1.2.2]) tV fun r2 =>
 .op (ar aM 1 #[(0,.int .i64 63)]) ah fun r3 =>
 .op (aa ca #[.slice r3.1 r3.2.1 r3.2.2]) tV fun r4 =>
 .op (aa dz #[.func (.func 75) #[] #[],r2]) tV fun r5 =>
 .ite ((a0_a0:Int)==47) (
 .op (ar aM 1 #[(0,.int .i64 48)]) ah fun r6 =>
 .op (aa ca #[.slice r6.1 r6.2.1 r6.2.2]) tV fun r7 =>
 .op (aK a2_a2 #[r7]) (.tup [.b .slice,.b .bool,.b .bool]) fun r8 =>
 .ret #[.v (.slice r8.1.1 r8.1.2.1 r8.1.2.2),.v (.bool r8.2.1),.v (.bool r8.2.2.1)]) (
 .join 0 [.b .bool] (
 .ite ((a0_a0:Int)==48) (
 .out 0 [.bool true]) (
 .out 0 [.bool ((a0_a0:Int)==57)])) fun x9 =>
 .ite x9.1 (
 .op (ar aU 1 #[(0,r5)]) ah fun r10 =>
 .op (aK a1_a1 #[.slice r10.1 r10.2.1 r10.2.2]) (.tup [.b .slice,.b .bool,.b .bool]) fun r11 =>
 .ret #[.v (.slice r11.1.1 r11.1.2.1 r11.1.2.2),.v (.bool r11.2.1),.v (.bool r11.2.2.1)]) (
 .ite ((a0_a0:Int)==49) (
 .op (ar aM 1 #[(0,.int .i64 50)]) ah fun r12 =>
 .op (aa ca #[.slice r12.1 r12.2.1 r12.2.2]) tV fun r13 =>
 .op (aa dz #[.func (.func 126) #[] #[],r13]) tV fun r14 =>
 .op (aK a2_a2 #[r14]) (.tup [.b .slice,.b .bool,.b .bool]) fun r15 =>
 .ret #[.v (.slice r15.1.1 r15.1.2.1 r15.1.2.2),.v (.bool r15.2.1),.v (.bool r15.2.2.1)]) (
 .ite ((a0_a0:Int)==50) (
 .op (ar aU 1 #[(0,.func (.func 174) #[] #[])]) ah fun r16 =>
 .op (aK a1_a1 #[.slice r16.1 r16.2.1 r16.2.2]) (.tup [.b .slice,.b .bool,.b .bool]) fun r17 =>
 .ret #[.v (.slice r17.1.1 r17.1.2.1 r17.1.2.2),.v (.bool r17.2.1),.v (.bool r17.2.2.1)]) (
 .ite ((a0_a0:Int)==51) (
 .op (ar aM 1 #[(0,.int .i64 67)]) ah fun r18 =>
 .op (aa ca #[.slice r18.1 r18.2.1 r18.2.2]) tV fun r19 =>
 .op (aa cU #[r19]) tV fun r20 =>
 .op (ar aM 1 #[(0,.int .i64 80)]) ah fun r21 =>
 .op (aa ca #[.slice r21.1 r21.2.1 r21.2.2]) tV fun r22 =>
 .op (aa cU #[r22]) tV fun r23 =>
 .op (ar aM 1 #[(0,.int .i64 84)]) ah fun r24 =>
 .op (aa ca #[.slice r24.1 r24.2.1 r24.2.2]) tV fun r25 =>
 .op (ar aU 3 #[(0,r20),(1,r23),(2,r25)]) ah fun r26 =>
 .op (aK a1_a1 #[.slice r26.1 r26.2.1 r26.2.2]) (.tup [.b .slice,.b .bool,.b .bool]) fun r27 =>
 .ret #[.v (.slice r27.1.1 r27.1.2.1 r27.1.2.2),.v (.bool r27.2.1),.v (.bool r27.2.2.1)]) (
 .ite ((a0_a0:Int)==52) (
 .op (ar aM 1 #[(0,.int .i64 67)]) ah fun r28 =>
 .op (aa ca #[.slice r28.1 r28.2.1 r28.2.2]) tV fun r29 =>
 .op (aa cU #[r29]) tV fun r30 =>
 .op (ar aU 2 #[(0,r30),(1,.func (.func 78) #[] #[])]) ah fun r31 =>
 .op (aK a1_a1 #[.slice r31.1 r31.2.1 r31.2.2]) (.tup [.b .slice,.b .bool,.b .bool]) fun r32 =>
 .ret #[.v (.slice r32.1.1 r32.1.2.1 r32.1.2.2),.v (.bool r32.2.1),.v (.bool r32.2.2.1)]) (
 .ite ((a0_a0:Int)==53) (
 .op (ar aM 2 #[(0,.int .i64 63),(1,.int .i64 53)]) ah fun r33 =>
 .op (aa ca #[.slice r33.1 r33.2.1 r33.2.2]) tV fun r34 =>
 .op (aa dz #[r34,r2]) tV fun r35 =>
 .op (ar aU 3 #[(0,.func (.func 75) #[] #[]),(1,r4),(2,r35)]) ah fun r36 =>
 .op (aK a1_a1 #[.slice r36.1 r36.2.1 r36.2.2]) (.tup [.b .slice,.b .bool,.b .bool]) fun r37 =>
 .ret #[.v (.slice r37.1.1 r37.1.2.1 r37.1.2.2),.v (.bool r37.2.1),.v (.bool r37.2.2.1)]) (
 .join 0 [.b .bool] (
 .ite ((a0_a0:Int)==54) (
 .out 0 [.bool true]) (
 .out 0 [.bool ((a0_a0:Int)==56)])) fun x38 =>
 .ite x38.1 (
 .op (ar aU 2 #[(0,.func (.func 75) #[] #[]),(1,r4)]) ah fun r39 =>
 .op (aK a1_a1 #[.slice r39.1 r39.2.1 r39.2.2]) (.tup [.b .slice,.b .bool,.b .bool]) fun r40 =>
 .ret #[.v (.slice r40.1.1 r40.1.2.1 r40.1.2.2),.v (.bool r40.2.1),.v (.bool r40.2.2.1)]) (
 .ite ((a0_a0:Int)==55) (
 .op (aa dz #[.func (.func 175) #[] #[],r2]) tV fun r41 =>
 .op (ar aU 4 #[(0,r41),(1,r5),(2,r5),(3,r4)]) ah fun r42 =>
 .op (aK a1_a1 #[.slice r42.1 r42.2.1 r42.2.2]) (.tup [.b .slice,.b .bool,.b .bool]) fun r43 =>
 .ret #[.v (.slice r43.1.1 r43.1.2.1 r43.1.2.2),.v (.bool r43.2.1),.v (.bool r43.2.2.1)]) (
 .ite ((a0_a0:Int)==61) (
 .op (ar aM 1 #[(0,.int .i64 62)]) ah fun r44 =>
 .op (aa ca #[.slice r44.1 r44.2.1 r44.2.2]) tV fun r45 =>
 .op (aa dz #[r45,r2]) tV fun r46 =>
 .op (aa dz #[r4,r2]) tV fun r47 =>
 .op (ar aU 3 #[(0,r4),(1,r46),(2,r47)]) ah fun r48 =>
 .op (aK a1_a1 #[.slice r48.1 r48.2.1 r48.2.2]) (.tup [.b .slice,.b .bool,.b .bool]) fun r49 =>
 .ret #[.v (.slice r49.1.1 r49.1.2.1 r49.1.2.2),.v (.bool r49.2.1),.v (.bool r49.2.2.1)]) (
 .ite ((a0_a0:Int)==62) (
 .op (ar aU 1 #[(0,r4)]) ah fun r50 =>
 .op (aK a1_a1 #[.slice r50.1 r50.2.1 r50.2.2]) (.tup [.b .slice,.b .bool,.b .bool]) fun r51 =>
 .ret #[.v (.slice r51.1.1 r51.1.2.1 r51.1.2.2),.v (.bool r51.2.1),.v (.bool r51.2.2.1)]) (
 .ite ((a0_a0:Int)==66) (
 .op (aa dz #[.func (.func 78) #[] #[],r2]) tV fun r52 =>
 .op (ar aU 1 #[(0,r52)]) ah fun r53 =>
 .op (aK a1_a1 #[.slice r53.1 r53.2.1 r53.2.2]) (.tup [.b .slice,.b .bool,.b .bool]) fun r54 =>
 .ret #[.v (.slice r54.1.1 r54.1.2.1 r54.1.2.2),.v (.bool r54.2.1),.v (.bool r54.2.2.1)]) (
 .join 0 [.b .bool] (
 .ite ((a0_a0:Int)==83) (
 .out 0 [.bool true]) (
 .out 0 [.bool ((a0_a0:Int)==85)])) fun x55 =>
 .ite x55.1 (
 .op (ar aU 1 #[(0,.func (.func 78) #[] #[])]) ah fun r56 =>
 .op (aK a1_a1 #[.slice r56.1 r56.2.1 r56.2.2]) (.tup [.b .slice,.b .bool,.b .bool]) fun r57 =>
 .ret #[.v (.slice r57.1.1 r57.1.2.1 r57.1.2.2),.v (.bool r57.2.1),.v (.bool r57.2.2.1)]) (
 .ite ((a0_a0:Int)==84) (
 .op (ar aM 1 #[(0,.int .i64 85)]) ah fun r58 =>
 .op (aa ca #[.slice r58.1 r58.2.1 r58.2.2]) tV fun r59 =>
 .op (aK a2_a2 #[r59]) (.tup [.b .slice,.b .bool,.b .bool]) fun r60 =>
 .ret #[.v (.slice r60.1.1 r60.1.2.1 r60.1.2.2),.v (.bool r60.2.1),.v (.bool r60.2.2.1)]) (
 .ite ((a0_a0:Int)==86) (
 .op (aa cU #[.func (.func 121) #[] #[]]) tV fun r61 =>
 .op (ar aU 2 #[(0,r61),(1,.func (.func 78) #[] #[])]) ah fun r62 =>
 .op (aK a1_a1 #[.slice r62.1 r62.2.1 r62.2.2]) (.tup [.b .slice,.b .bool,.b .bool]) fun r63 =>
 .ret #[.v (.slice r63.1.1 r63.1.2.1 r63.1.2.2),.v (.bool r63.2.1),.v (.bool r63.2.2.1)]) (
 .ret #[.v (.slice none 0 0),.v (.bool false),.v (.bool false)])))))))))))))))
theorem Dg (a0_a0:Int) (a1_a1:Value) (a2_a2:Value):bh Tryz.prog Tryz.f130 Cc [.int .i64 a0_a0,a1_a1,a2_a2]=oy a0_a0 a1_a1 a2_a2:=by kernel_rfl
theorem C2 {ε σ β:Type} {I:av ε σ} {t:Ty} {s:Sp ε σ β} {Rel:β→t.den→al→Fact} {Γ:List Fact} (a0_a0:Int) (a1_a1:Value) (a2_a2:Value) (h:Sim Tryz.prog I t Rel noLabel none (oy a0_a0 a1_a1 a2_a2) s [] Γ):MeetsO Tryz.prog I (aa oV #[.int .i64 a0_a0,a1_a1,a2_a2]) t s Rel Γ :=
 aj (args:=[.int .i64 a0_a0,a1_a1,a2_a2]) Tryz.func130 rfl rfl (Nat.le_of_ble_eq_true rfl) (by rw [Dg]; exact h)
def Fj:An :=
 .s (.r [some tA,none]) (.s (.r [none,none]) (.x))
def se (a0_kinds:Option Addr × Nat × Nat):T :=
 .op (cJ aM (.slice a0_kinds.1 a0_kinds.2.1 a0_kinds.2.2)) tA fun r1 =>
 .ret #[.v (.func (.func i4) #[] #[.pointer (some r1)])]
theorem F7 (a0_kinds:Option Addr × Nat × Nat):bh Tryz.prog Tryz.f119 Fj [.slice a0_kinds.1 a0_kinds.2.1 a0_kinds.2.2]=se a0_kinds:=by kernel_rfl
theorem FC {ε σ β:Type} {I:av ε σ} {t:Ty} {s:Sp ε σ β} {Rel:β→t.den→al→Fact} {Γ:List Fact} (a0_kinds:Option Addr × Nat × Nat) (h:Sim Tryz.prog I t Rel noLabel none (se a0_kinds) s [] Γ):MeetsO Tryz.prog I (aa ca #[.slice a0_kinds.1 a0_kinds.2.1 a0_kinds.2.2]) t s Rel Γ :=
 aj (args:=[.slice a0_kinds.1 a0_kinds.2.1 a0_kinds.2.2]) Tryz.func119 rfl rfl (Nat.le_of_ble_eq_true rfl) (by rw [F7]; exact h)
def By:An :=
 .s (.r [some tA,none]) (.s (.s (.r [some ah,none,none]) (.b (.l [(10,.b (.int .i64))] (.s (.r [none]) (.s (.c (.x) (.x)) (.s (.b (.s (.r [some tA,some tI,none]) (.s (.r [none,some ah,none,some tA,none,some tI,none,none]) (.c (.s (.r [none]) (.x)) (.x))))) (.r [none,none]))))))) (.s (.r [none]) (.x)))
def oO (a0_t:HB [.slice]) (a1_n:Int) (a2_a2:Addr):T :=
 .op (cJ ap (.agg #[.slice a0_t.1.1 a0_t.1.2.1 a0_t.1.2.2])) tA fun r1 =>
 .op (ai aM (.pointer (some a2_a2))) ah fun r2 =>
 .loop 0 [.b (.int .i64)] [.int .i64 0] fun x3 =>
 .ite (decide ((x3.1:Int) < (r2.2.1:Int))) (
 .op (aR aM (.slice r2.1 r2.2.1 r2.2.2) (.int .i64 x3.1)) tA fun r4 =>
 .op (ai ak (.pointer (some r4))) tI fun r5 =>
 .op (ai aw (.pointer (some r1))) ah fun r6 =>
 .op (aR aw (.slice r6.1 r6.2.1 r6.2.2) (.int .i64 a1_n)) tA fun r7 =>
 .op (ai ak (.pointer (some r7))) tI fun r8 =>
 .ite ((r8:Int)==r5) (
 .ret #[.v (.bool true)]) (
 .out 0 [.int .i64 (IntKind.i64.wrap (x3.1+1))])) (
 .ret #[.v (.bool false)])
theorem Df (a0_t:HB [.slice]) (a1_n:Int) (a2_a2:Addr):bh Tryz.prog Tryz.f171 By [.agg #[.slice a0_t.1.1 a0_t.1.2.1 a0_t.1.2.2],.int .i64 a1_n,.pointer (some a2_a2)]=oO a0_t a1_n a2_a2:=by kernel_rfl
theorem CW {ε σ β:Type} {I:av ε σ} {t:Ty} {s:Sp ε σ β} {Rel:β→t.den→al→Fact} {Γ:List Fact} (a0_t:HB [.slice]) (a1_n:Int) (a2_a2:Addr) (h:Sim Tryz.prog I t Rel noLabel none (oO a0_t a1_n a2_a2) s [] Γ):MeetsO Tryz.prog I (aa i4 #[.agg #[.slice a0_t.1.1 a0_t.1.2.1 a0_t.1.2.2],.int .i64 a1_n,.pointer (some a2_a2)]) t s Rel Γ :=
 aj (args:=[.agg #[.slice a0_t.1.1 a0_t.1.2.1 a0_t.1.2.2],.int .i64 a1_n,.pointer (some a2_a2)]) Tryz.func171 rfl rfl (Nat.le_of_ble_eq_true rfl) (by rw [Df]; exact h)
def Cs:An :=
 .s (.r [some tA,none]) (.s (.r [none,none]) (.x))
def oK (a0_one:Value):T :=
 .op (cJ cu a0_one) tA fun r1 =>
 .ret #[.v (.func (.func gB) #[] #[.pointer (some r1)])]
theorem Dl (a0_one:Value):bh Tryz.prog Tryz.f120 Cs [a0_one]=oK a0_one:=by kernel_rfl
theorem Dy {ε σ β:Type} {I:av ε σ} {t:Ty} {s:Sp ε σ β} {Rel:β→t.den→al→Fact} {Γ:List Fact} (a0_one:Value) (h:Sim Tryz.prog I t Rel noLabel none (oK a0_one) s [] Γ):MeetsO Tryz.prog I (aa cU #[a0_one]) t s Rel Γ :=
 aj (args:=[a0_one]) Tryz.func120 rfl rfl (Nat.le_of_ble_eq_true rfl) (by rw [Dl]; exact h)
def yz:An :=
 .s (.r [some tA,none]) (.s (.s (.r [none,some ah,none,some tA,none,some tI,none]) (.c (.s (.r [none]) (.x)) (.x))) (.s (.s (.r [none,some ah,none,some tA,none,some ah,none,none]) (.b (.l [(22,.b (.int .i64))] (.s (.r [none]) (.s (.c (.x) (.x)) (.s (.b (.s (.r [some tA,some tI,none]) (.s (.r [some (.c (.agg [.slice])),none,some tB,none,none,some tV,some (.c (.agg [.slice])),none,some tB,none,none]) (.c (.s (.r [none]) (.x)) (.x))))) (.r [none,none]))))))) (.s (.r [none]) (.x))))
def mo (a0_t:HB [.slice]) (a1_n:Int) (a2_a2:Addr):T :=
 .op (cJ ap (.agg #[.slice a0_t.1.1 a0_t.1.2.1 a0_t.1.2.2])) tA fun r1 =>
 .op (ai aw (.pointer (some r1))) ah fun r2 =>
 .op (aR aw (.slice r2.1 r2.2.1 r2.2.2) (.int .i64 a1_n)) tA fun r3 =>
 .op (ai ak (.pointer (some r3))) tI fun r4 =>
 .ite ((r4:Int) != 2) (
 .ret #[.v (.bool false)]) (
 .op (ai aw (.pointer (some r1))) ah fun r5 =>
 .op (aR aw (.slice r5.1 r5.2.1 r5.2.2) (.int .i64 a1_n)) tA fun r6 =>
 .op (ai aM (.pointer (some ⟨r6.block,r6.off+3,none⟩))) ah fun r7 =>
 .loop 0 [.b (.int .i64)] [.int .i64 0] fun x8 =>
 .ite (decide ((x8.1:Int) < (r7.2.1:Int))) (
 .op (aR aM (.slice r7.1 r7.2.1 r7.2.2) (.int .i64 x8.1)) tA fun r9 =>
 .op (ai ak (.pointer (some r9))) tI fun r10 =>
 .op (ai ap (.pointer (some r1))) (.c (.agg [.slice])) fun r11 =>
 .op (aa gE #[.agg #[.slice r11.1.1 r11.1.2.1 r11.1.2.2],.int .i64 r10]) tB fun r12 =>
 .ite (!r12) (
 .ret #[.v (.bool false)]) (
 .op (ai cu (.pointer (some a2_a2))) tV fun r13 =>
 .op (ai ap (.pointer (some r1))) (.c (.agg [.slice])) fun r14 =>
 .op (aK r13 #[.agg #[.slice r14.1.1 r14.1.2.1 r14.1.2.2],.int .i64 r10]) tB fun r15 =>
 .ite (!r15) (
 .ret #[.v (.bool false)]) (
 .out 0 [.int .i64 (IntKind.i64.wrap (x8.1+1))]))) (
 .ret #[.v (.bool true)]))
theorem zy (a0_t:HB [.slice]) (a1_n:Int) (a2_a2:Addr):bh Tryz.prog Tryz.f172 yz [.agg #[.slice a0_t.1.1 a0_t.1.2.1 a0_t.1.2.2],.int .i64 a1_n,.pointer (some a2_a2)]=mo a0_t a1_n a2_a2:=by kernel_rfl
theorem zp {ε σ β:Type} {I:av ε σ} {t:Ty} {s:Sp ε σ β} {Rel:β→t.den→al→Fact} {Γ:List Fact} (a0_t:HB [.slice]) (a1_n:Int) (a2_a2:Addr) (h:Sim Tryz.prog I t Rel noLabel none (mo a0_t a1_n a2_a2) s [] Γ):MeetsO Tryz.prog I (aa gB #[.agg #[.slice a0_t.1.1 a0_t.1.2.1 a0_t.1.2.2],.int .i64 a1_n,.pointer (some a2_a2)]) t s Rel Γ :=
 aj (args:=[.agg #[.slice a0_t.1.1 a0_t.1.2.1 a0_t.1.2.2],.int .i64 a1_n,.pointer (some a2_a2)]) Tryz.func172 rfl rfl (Nat.le_of_ble_eq_true rfl) (by rw [zy]; exact h)
def EX:An :=
 .s (.r [some tA,some tA,none]) (.s (.r [none,none]) (.x))
def rC (a0_a:Value) (a1_b:Value):T :=
 .op (cJ cu a0_a) tA fun r1 =>
 .op (cJ cu a1_b) tA fun r2 =>
 .ret #[.v (.func (.func i8) #[] #[.pointer (some r1),.pointer (some r2)])]
theorem Ga (a0_a:Value) (a1_b:Value):bh Tryz.prog Tryz.f122 EX [a0_a,a1_b]=rC a0_a a1_b:=by kernel_rfl
theorem Gs {ε σ β:Type} {I:av ε σ} {t:Ty} {s:Sp ε σ β} {Rel:β→t.den→al→Fact} {Γ:List Fact} (a0_a:Value) (a1_b:Value) (h:Sim Tryz.prog I t Rel noLabel none (rC a0_a a1_b) s [] Γ):MeetsO Tryz.prog I (aa dz #[a0_a,a1_b]) t s Rel Γ :=
 aj (args:=[a0_a,a1_b]) Tryz.func122 rfl rfl (Nat.le_of_ble_eq_true rfl) (by rw [Ga]; exact h)
def CH:An :=
 .s (.r [some tA,none]) (.s (.r [some tV,some (.c (.agg [.slice])),none,some tB,none,some tV,some (.c (.agg [.slice])),none,some tB,none,none]) (.x))
def ow (a0_t:HB [.slice]) (a1_n:Int) (a2_a2:Addr) (a3_a3:Addr):T :=
 .op (cJ ap (.agg #[.slice a0_t.1.1 a0_t.1.2.1 a0_t.1.2.2])) tA fun r1 =>
 .op (ai cu (.pointer (some a2_a2))) tV fun r2 =>
 .op (ai ap (.pointer (some r1))) (.c (.agg [.slice])) fun r3 =>
 .op (aK r2 #[.agg #[.slice r3.1.1 r3.1.2.1 r3.1.2.2],.int .i64 a1_n]) tB fun r4 =>
 .ite r4 (
 .ret #[.v (.bool true)]) (
 .op (ai cu (.pointer (some a3_a3))) tV fun r5 =>
 .op (ai ap (.pointer (some r1))) (.c (.agg [.slice])) fun r6 =>
 .op (aK r5 #[.agg #[.slice r6.1.1 r6.1.2.1 r6.1.2.2],.int .i64 a1_n]) tB fun r7 =>
 .ret #[.v (.bool r7)])
theorem C7 (a0_t:HB [.slice]) (a1_n:Int) (a2_a2:Addr) (a3_a3:Addr):bh Tryz.prog Tryz.f173 CH [.agg #[.slice a0_t.1.1 a0_t.1.2.1 a0_t.1.2.2],.int .i64 a1_n,.pointer (some a2_a2),.pointer (some a3_a3)]=ow a0_t a1_n a2_a2 a3_a3:=by kernel_rfl
theorem Dj {ε σ β:Type} {I:av ε σ} {t:Ty} {s:Sp ε σ β} {Rel:β→t.den→al→Fact} {Γ:List Fact} (a0_t:HB [.slice]) (a1_n:Int) (a2_a2:Addr) (a3_a3:Addr) (h:Sim Tryz.prog I t Rel noLabel none (ow a0_t a1_n a2_a2 a3_a3) s [] Γ):MeetsO Tryz.prog I (aa i8 #[.agg #[.slice a0_t.1.1 a0_t.1.2.1 a0_t.1.2.2],.int .i64 a1_n,.pointer (some a2_a2),.pointer (some a3_a3)]) t s Rel Γ :=
 aj (args:=[.agg #[.slice a0_t.1.1 a0_t.1.2.1 a0_t.1.2.2],.int .i64 a1_n,.pointer (some a2_a2),.pointer (some a3_a3)]) Tryz.func173 rfl rfl (Nat.le_of_ble_eq_true rfl) (by rw [C7]; exact h)
def yl:An :=
 .s (.r [some tA,none]) (.s (.r [none,some ah,none,some tA,none,some tI,none]) (.s (.r [none,none,none,none,none,none,none,none,none,none,none]) (.x)))
def mD (a0_t:HB [.slice]) (a1_n:Int):T :=
 .op (cJ ap (.agg #[.slice a0_t.1.1 a0_t.1.2.1 a0_t.1.2.2])) tA fun r1 =>
 .op (ai aw (.pointer (some r1))) ah fun r2 =>
 .op (aR aw (.slice r2.1 r2.2.1 r2.2.2) (.int .i64 a1_n)) tA fun r3 =>
 .op (ai ak (.pointer (some r3))) tI fun r4 =>
 .ite (decide ((r4:Int)≥10)) (
 .ite (decide ((r4:Int)≤34)) (
 .ret #[.v (.bool ((r4:Int) != 21))]) (
 .ret #[.v (.bool false)])) (
 .ret #[.v (.bool false)])
theorem zE (a0_t:HB [.slice]) (a1_n:Int):bh Tryz.prog Tryz.f75 yl [.agg #[.slice a0_t.1.1 a0_t.1.2.1 a0_t.1.2.2],.int .i64 a1_n]=mD a0_t a1_n:=by kernel_rfl
theorem zJ {ε σ β:Type} {I:av ε σ} {t:Ty} {s:Sp ε σ β} {Rel:β→t.den→al→Fact} {Γ:List Fact} (a0_t:HB [.slice]) (a1_n:Int) (h:Sim Tryz.prog I t Rel noLabel none (mD a0_t a1_n) s [] Γ):MeetsO Tryz.prog I (aa ez #[.agg #[.slice a0_t.1.1 a0_t.1.2.1 a0_t.1.2.2],.int .i64 a1_n]) t s Rel Γ :=
 aj (args:=[.agg #[.slice a0_t.1.1 a0_t.1.2.1 a0_t.1.2.2],.int .i64 a1_n]) Tryz.func75 rfl rfl (Nat.le_of_ble_eq_true rfl) (by rw [zE]; exact h)
def xO:An :=
 .s (.r [some tA,none]) (.s (.r [none,some ah,none,some tA,none,some tI,none]) (.s (.r [none,none,none,none,none,none,none,none,none,none,none]) (.x)))
def lQ (a0_t:HB [.slice]) (a1_n:Int):T :=
 .op (cJ ap (.agg #[.slice a0_t.1.1 a0_t.1.2.1 a0_t.1.2.2])) tA fun r1 =>
 .op (ai aw (.pointer (some r1))) ah fun r2 =>
 .op (aR aw (.slice r2.1 r2.2.1 r2.2.2) (.int .i64 a1_n)) tA fun r3 =>
 .op (ai ak (.pointer (some r3))) tI fun r4 =>
 .ite (decide ((r4:Int)≥80)) (
 .ite (decide ((r4:Int)≤87)) (
 .ret #[.v (.bool ((r4:Int) != 85))]) (
 .ret #[.v (.bool false)])) (
 .ret #[.v (.bool false)])
theorem zu (a0_t:HB [.slice]) (a1_n:Int):bh Tryz.prog Tryz.f78 xO [.agg #[.slice a0_t.1.1 a0_t.1.2.1 a0_t.1.2.2],.int .i64 a1_n]=lQ a0_t a1_n:=by kernel_rfl
theorem AR {ε σ β:Type} {I:av ε σ} {t:Ty} {s:Sp ε σ β} {Rel:β→t.den→al→Fact} {Γ:List Fact} (a0_t:HB [.slice]) (a1_n:Int) (h:Sim Tryz.prog I t Rel noLabel none (lQ a0_t a1_n) s [] Γ):MeetsO Tryz.prog I (aa fs #[.agg #[.slice a0_t.1.1 a0_t.1.2.1 a0_t.1.2.2],.int .i64 a1_n]) t s Rel Γ :=
 aj (args:=[.agg #[.slice a0_t.1.1 a0_t.1.2.1 a0_t.1.2.2],.int .i64 a1_n]) Tryz.func78 rfl rfl (Nat.le_of_ble_eq_true rfl) (by rw [zu]; exact h)
def yq:An :=
 .s (.r [some tA,none]) (.s (.s (.r [none,some ah,none,some tA,none,some tI]) (.b (.s (.s (.r [none,none]) (.c (.x) (.s (.r [none,none]) (.c (.x) (.s (.r [none,none]) (.c (.x) (.s (.r [none,none]) (.c (.x) (.s (.r [none,none]) (.c (.x) (.s (.r [none,none]) (.c (.x) (.s (.r [none,none]) (.c (.x) (.s (.r [none,none]) (.c (.x) (.s (.r [none,none]) (.c (.x) (.s (.r [none,none]) (.c (.x) (.s (.r [none,none]) (.c (.x) (.s (.r [none,none]) (.c (.x) (.s (.r [none,none]) (.c (.x) (.s (.r [none,none]) (.c (.x) (.s (.r [none,none]) (.c (.x) (.s (.r [none,none]) (.c (.x) (.s (.r [none,none]) (.c (.x) (.s (.r [none,none]) (.c (.x) (.r [none,none]))))))))))))))))))))))))))))))))))))) (.c (.s (.r [none]) (.x)) (.x))))) (.s (.r [none]) (.x)))
def mb (a0_t:HB [.slice]) (a1_n:Int):T :=
 .op (cJ ap (.agg #[.slice a0_t.1.1 a0_t.1.2.1 a0_t.1.2.2])) tA fun r1 =>
 .op (ai aw (.pointer (some r1))) ah fun r2 =>
 .op (aR aw (.slice r2.1 r2.2.1 r2.2.2) (.int .i64 a1_n)) tA fun r3 =>
 .op (ai ak (.pointer (some r3))) tI fun r4 =>
 .ite ((r4:Int)==40) (
 .ret #[.v (.bool true)]) (
 .ite ((r4:Int)==41) (
 .ret #[.v (.bool true)]) (
 .ite ((r4:Int)==42) (
 .ret #[.v (.bool true)]) (
 .ite ((r4:Int)==47) (
 .ret #[.v (.bool true)]) (
 .ite ((r4:Int)==49) (
 .ret #[.v (.bool true)]) (
 .ite ((r4:Int)==51) (
 .ret #[.v (.bool true)]) (
 .ite ((r4:Int)==52) (
 .ret #[.v (.bool true)]) (
 .ite ((r4:Int)==53) (
 .ret #[.v (.bool true)]) (
 .ite ((r4:Int)==54) (
 .ret #[.v (.bool true)]) (
 .ite ((r4:Int)==55) (
 .ret #[.v (.bool true)]) (
 .ite ((r4:Int)==56) (
 .ret #[.v (.bool true)]) (
 .ite ((r4:Int)==57) (
 .ret #[.v (.bool true)]) (
 .ite ((r4:Int)==58) (
 .ret #[.v (.bool true)]) (
 .ite ((r4:Int)==59) (
 .ret #[.v (.bool true)]) (
 .ite ((r4:Int)==60) (
 .ret #[.v (.bool true)]) (
 .ite ((r4:Int)==61) (
 .ret #[.v (.bool true)]) (
 .ite ((r4:Int)==63) (
 .ret #[.v (.bool true)]) (
 .ite ((r4:Int)==64) (
 .ret #[.v (.bool true)]) (
 .ite ((r4:Int)==65) (
 .ret #[.v (.bool true)]) (
 .ret #[.v (.bool false)])))))))))))))))))))
theorem Aj (a0_t:HB [.slice]) (a1_n:Int):bh Tryz.prog Tryz.f126 yq [.agg #[.slice a0_t.1.1 a0_t.1.2.1 a0_t.1.2.2],.int .i64 a1_n]=mb a0_t a1_n:=by kernel_rfl
theorem zr {ε σ β:Type} {I:av ε σ} {t:Ty} {s:Sp ε σ β} {Rel:β→t.den→al→Fact} {Γ:List Fact} (a0_t:HB [.slice]) (a1_n:Int) (h:Sim Tryz.prog I t Rel noLabel none (mb a0_t a1_n) s [] Γ):MeetsO Tryz.prog I (aa gD #[.agg #[.slice a0_t.1.1 a0_t.1.2.1 a0_t.1.2.2],.int .i64 a1_n]) t s Rel Γ :=
 aj (args:=[.agg #[.slice a0_t.1.1 a0_t.1.2.1 a0_t.1.2.2],.int .i64 a1_n]) Tryz.func126 rfl rfl (Nat.le_of_ble_eq_true rfl) (by rw [Aj]; exact h)
def uV:An :=
 .s (.r [some tA,none]) (.s (.r [none,some ah,none,some tA,none,some tI,none,none,none,some ah,none,some tA,none,some tI,some tI,none,none,none]) (.x))
def kG (a0_t:HB [.slice]) (a1_n:Int):T :=
 .op (cJ ap (.agg #[.slice a0_t.1.1 a0_t.1.2.1 a0_t.1.2.2])) tA fun r1 =>
 .op (ai aw (.pointer (some r1))) ah fun r2 =>
 .op (aR aw (.slice r2.1 r2.2.1 r2.2.2) (.int .i64 a1_n)) tA fun r3 =>
 .op (ai ak (.pointer (some r3))) tI fun r4 =>
 .ite ((r4:Int)==66) (
 .op (ai aw (.pointer (some r1))) ah fun r5 =>
 .op (aR aw (.slice r5.1 r5.2.1 r5.2.2) (.int .i64 a1_n)) tA fun r6 =>
 .op (ai ak (.pointer (some ⟨r6.block,r6.off+2,none⟩))) tI fun r7 =>
 .op (bT .andNot ak (.int .i64 r7) (.int .i64 1)) tI fun r8 =>
 .ret #[.v (.bool ((r8:Int)==0))]) (
 .ret #[.v (.bool false)])
theorem wM (a0_t:HB [.slice]) (a1_n:Int):bh Tryz.prog Tryz.f121 uV [.agg #[.slice a0_t.1.1 a0_t.1.2.1 a0_t.1.2.2],.int .i64 a1_n]=kG a0_t a1_n:=by kernel_rfl
theorem yg {ε σ β:Type} {I:av ε σ} {t:Ty} {s:Sp ε σ β} {Rel:β→t.den→al→Fact} {Γ:List Fact} (a0_t:HB [.slice]) (a1_n:Int) (h:Sim Tryz.prog I t Rel noLabel none (kG a0_t a1_n) s [] Γ):MeetsO Tryz.prog I (aa fV #[.agg #[.slice a0_t.1.1 a0_t.1.2.1 a0_t.1.2.2],.int .i64 a1_n]) t s Rel Γ :=
 aj (args:=[.agg #[.slice a0_t.1.1 a0_t.1.2.1 a0_t.1.2.2],.int .i64 a1_n]) Tryz.func121 rfl rfl (Nat.le_of_ble_eq_true rfl) (by rw [wM]; exact h)
def DF:An :=
 .s (.r [some tA,none]) (.s (.r [none]) (.x))
def qy (a0_a0:HB [.slice]) (a1_a1:Int):T :=
 .op (cJ ap (.agg #[.slice a0_a0.1.1 a0_a0.1.2.1 a0_a0.1.2.2])) tA fun r1 =>
 .ret #[.v (.bool true)]
theorem E7 (a0_a0:HB [.slice]) (a1_a1:Int):bh Tryz.prog Tryz.f125 DF [.agg #[.slice a0_a0.1.1 a0_a0.1.2.1 a0_a0.1.2.2],.int .i64 a1_a1]=qy a0_a0 a1_a1:=by kernel_rfl
theorem Fg {ε σ β:Type} {I:av ε σ} {t:Ty} {s:Sp ε σ β} {Rel:β→t.den→al→Fact} {Γ:List Fact} (a0_a0:HB [.slice]) (a1_a1:Int) (h:Sim Tryz.prog I t Rel noLabel none (qy a0_a0 a1_a1) s [] Γ):MeetsO Tryz.prog I (aa jV #[.agg #[.slice a0_a0.1.1 a0_a0.1.2.1 a0_a0.1.2.2],.int .i64 a1_a1]) t s Rel Γ :=
 aj (args:=[.agg #[.slice a0_a0.1.1 a0_a0.1.2.1 a0_a0.1.2.2],.int .i64 a1_a1]) Tryz.func125 rfl rfl (Nat.le_of_ble_eq_true rfl) (by rw [E7]; exact h)
def w9:An :=
 .s (.r [some tA,none]) (.s (.d (.q 2 (some (.c (.agg [.slice]))) (.q 3 none (.l 0 (some ah) (.l 1 (some tV) (.l 4 (some tB) (.q 5 none (.e)))))))) (.x))
def l3 (a0_t:HB [.slice]) (a1_n:Int):T :=
 .op (cJ ap (.agg #[.slice a0_t.1.1 a0_t.1.2.1 a0_t.1.2.2])) tA fun r1 =>
 .draw <|
 .opq (ai ap (.pointer (some r1))) (.c (.agg [.slice])) fun r2 =>
 .opl (ar aM 3 #[(0,.int .i64 17),(1,.int .i64 29),(2,.int .i64 30)]) ah fun r3 =>
 .opl (aa ca #[.slice r3.1 r3.2.1 r3.2.2]) tV fun r4 =>
 .opl (aK r4 #[.agg #[.slice r2.1.1 r2.1.2.1 r2.1.2.2],.int .i64 a1_n]) tB fun r5 =>
 .ret #[.v (.bool r5)]
theorem AM (a0_t:HB [.slice]) (a1_n:Int):bh Tryz.prog Tryz.f127 w9 [.agg #[.slice a0_t.1.1 a0_t.1.2.1 a0_t.1.2.2],.int .i64 a1_n]=l3 a0_t a1_n:=by kernel_rfl
theorem Ag {ε σ β:Type} {I:av ε σ} {t:Ty} {s:Sp ε σ β} {Rel:β→t.den→al→Fact} {Γ:List Fact} (a0_t:HB [.slice]) (a1_n:Int) (h:Sim Tryz.prog I t Rel noLabel none (l3 a0_t a1_n) s [] Γ):MeetsO Tryz.prog I (aa gv #[.agg #[.slice a0_t.1.1 a0_t.1.2.1 a0_t.1.2.2],.int .i64 a1_n]) t s Rel Γ :=
 aj (args:=[.agg #[.slice a0_t.1.1 a0_t.1.2.1 a0_t.1.2.2],.int .i64 a1_n]) Tryz.func127 rfl rfl (Nat.le_of_ble_eq_true rfl) (by rw [AM]; exact h)
def xV:An :=
 .s (.r [some tA,none]) (.s (.s (.r [none,some ah,none,none]) (.b (.l [(1,.b (.int .i64)),(9,.b (.int .i64))] (.s (.r [none]) (.s (.c (.x) (.x)) (.s (.b (.s (.r [none,some ah,none,some tA,some (.c (.agg [.int .i64,.str,.int .i64,.slice,.int .i64])),some tA,some tU]) (.s (.s (.r [none,some tI,none]) (.c (.s (.r [none,some tI,none,none]) (.x)) (.x))) (.s (.s (.j [(34,.b .bool)] (.d (.q 0 none (.q 1 (some ah) (.q 2 none (.q 3 none (.q 4 none (.q 5 (some (.c (.agg [.slice]))) (.q 6 none (.q 7 (some ah) (.q 8 (some tA) (.q 9 (some tI) (.l 10 (some tB) (.q 11 none (.q 12 none (.e)))))))))))))))) (.c (.s (.r [none]) (.x)) (.x))) (.r [none,some ah,some tA,some tI,none]))))) (.r [none,none]))))))) (.s (.r [none]) (.x)))
def lO (a0_t:HB [.slice]) (a1_n:Int):T :=
 .op (cJ ap (.agg #[.slice a0_t.1.1 a0_t.1.2.1 a0_t.1.2.2])) tA fun r1 =>
 .op (ai aw (.pointer (some r1))) ah fun r2 =>
 .loop 0 [.b (.int .i64),.b (.int .i64)] [.int .i64 a1_n,.int .i64 0] fun x3 =>
 .ite (decide ((x3.2.1:Int) < (r2.2.1:Int))) (
 .op (ai aw (.pointer (some r1))) ah fun r4 =>
 .op (aR aw (.slice r4.1 r4.2.1 r4.2.2) (.int .i64 x3.1)) tA fun r5 =>
 .op (ai bz (.pointer (some r5))) (.c (.agg [.int .i64,.str,.int .i64,.slice,.int .i64])) fun r6 =>
 .op (bj bz) tA fun r7 =>
 .op (aW bz (.pointer (some r7)) (.agg #[.int .i64 r6.1,.string r6.2.1,.int .i64 r6.2.2.1,.slice r6.2.2.2.1.1 r6.2.2.2.1.2.1 r6.2.2.2.1.2.2,.int .i64 r6.2.2.2.2.1])) tU fun _ =>
 .op (ai ak (.pointer (some r7))) tI fun r9 =>
 .ite ((r9:Int) != 29) (
 .op (ai ak (.pointer (some r7))) tI fun r10 =>
 .ret #[.v (.bool ((r10:Int)==17))]) (
 .join 1 [.b .bool] (
 .draw <|
 .opq (ai aM (.pointer (some ⟨r7.block,r7.off+3,none⟩))) ah fun r11 =>
 .ite (((r11.2.1:Int):Int) != 1) (
 .out 1 [.bool true]) (
 .opq (ai ap (.pointer (some r1))) (.c (.agg [.slice])) fun r12 =>
 .opq (ai aM (.pointer (some ⟨r7.block,r7.off+3,none⟩))) ah fun r13 =>
 .opq (aR aM (.slice r13.1 r13.2.1 r13.2.2) (.int .i64 0)) tA fun r14 =>
 .opq (ai ak (.pointer (some r14))) tI fun r15 =>
 .opl (aa gE #[.agg #[.slice r12.1.1 r12.1.2.1 r12.1.2.2],.int .i64 r15]) tB fun r16 =>
 .out 1 [.bool (!r16)])) fun x17 =>
 .ite x17.1 (
 .ret #[.v (.bool false)]) (
 .op (ai aM (.pointer (some ⟨r7.block,r7.off+3,none⟩))) ah fun r18 =>
 .op (aR aM (.slice r18.1 r18.2.1 r18.2.2) (.int .i64 0)) tA fun r19 =>
 .op (ai ak (.pointer (some r19))) tI fun r20 =>
 .out 0 [.int .i64 r20,.int .i64 (IntKind.i64.wrap (x3.2.1+1))]))) (
 .ret #[.v (.bool false)])
theorem zY (a0_t:HB [.slice]) (a1_n:Int):bh Tryz.prog Tryz.f128 xV [.agg #[.slice a0_t.1.1 a0_t.1.2.1 a0_t.1.2.2],.int .i64 a1_n]=lO a0_t a1_n:=by kernel_rfl
theorem AF {ε σ β:Type} {I:av ε σ} {t:Ty} {s:Sp ε σ β} {Rel:β→t.den→al→Fact} {Γ:List Fact} (a0_t:HB [.slice]) (a1_n:Int) (h:Sim Tryz.prog I t Rel noLabel none (lO a0_t a1_n) s [] Γ):MeetsO Tryz.prog I (aa gA #[.agg #[.slice a0_t.1.1 a0_t.1.2.1 a0_t.1.2.2],.int .i64 a1_n]) t s Rel Γ :=
 aj (args:=[.agg #[.slice a0_t.1.1 a0_t.1.2.1 a0_t.1.2.2],.int .i64 a1_n]) Tryz.func128 rfl rfl (Nat.le_of_ble_eq_true rfl) (by rw [zY]; exact h)
def td:An :=
 .s (.r [some tA,none]) (.s (.s (.d (.q 3 (some (.c (.agg [.slice]))) (.q 4 none (.l 0 (some ah) (.l 1 (some tV) (.l 2 (some tV) (.l 5 (some tB) (.q 6 none (.e))))))))) (.c (.s (.r [none]) (.x)) (.x))) (.s (.r [none]) (.s (.s (.r [none,some ah,none,some tA,none,some ah,none,none]) (.b (.l [(5,.b (.int .i64)),(22,.b (.int .i64))] (.s (.r [none]) (.s (.c (.x) (.x)) (.s (.b (.s (.r [some tA,some tI,none]) (.s (.r [none,some ah,none,some tA,none,some tI,none]) (.c (.r [none,none,none]) (.x))))) (.r [none,none]))))))) (.s (.r [none,none,none]) (.x)))))
def jm (a0_t:HB [.slice]) (a1_n:Int):T :=
 .op (cJ ap (.agg #[.slice a0_t.1.1 a0_t.1.2.1 a0_t.1.2.2])) tA fun r1 =>
 .draw <|
 .opq (ai ap (.pointer (some r1))) (.c (.agg [.slice])) fun r2 =>
 .opl (ar aM 3 #[(0,.int .i64 44),(1,.int .i64 45),(2,.int .i64 46)]) ah fun r3 =>
 .opl (aa ca #[.slice r3.1 r3.2.1 r3.2.2]) tV fun r4 =>
 .opl (aa cU #[r4]) tV fun r5 =>
 .opl (aK r5 #[.agg #[.slice r2.1.1 r2.1.2.1 r2.1.2.2],.int .i64 a1_n]) tB fun r6 =>
 .ite (!r6) (
 .ret #[.v (.bool false)]) (
 .op (ai aw (.pointer (some r1))) ah fun r7 =>
 .op (aR aw (.slice r7.1 r7.2.1 r7.2.2) (.int .i64 a1_n)) tA fun r8 =>
 .op (ai aM (.pointer (some ⟨r8.block,r8.off+3,none⟩))) ah fun r9 =>
 .loop 0 [.b (.int .i64),.b (.int .i64)] [.int .i64 0,.int .i64 0] fun x10 =>
 .ite (decide ((x10.2.1:Int) < (r9.2.1:Int))) (
 .op (aR aM (.slice r9.1 r9.2.1 r9.2.2) (.int .i64 x10.2.1)) tA fun r11 =>
 .op (ai ak (.pointer (some r11))) tI fun r12 =>
 .op (ai aw (.pointer (some r1))) ah fun r13 =>
 .op (aR aw (.slice r13.1 r13.2.1 r13.2.2) (.int .i64 r12)) tA fun r14 =>
 .op (ai ak (.pointer (some r14))) tI fun r15 =>
 .ite ((r15:Int)==46) (
 .out 0 [.int .i64 (IntKind.i64.wrap (x10.1+1)),.int .i64 (IntKind.i64.wrap (x10.2.1+1))]) (
 .out 0 [.int .i64 x10.1,.int .i64 (IntKind.i64.wrap (x10.2.1+1))])) (
 .ret #[.v (.bool (decide ((x10.1:Int) < 2)))]))
theorem uh (a0_t:HB [.slice]) (a1_n:Int):bh Tryz.prog Tryz.f129 td [.agg #[.slice a0_t.1.1 a0_t.1.2.1 a0_t.1.2.2],.int .i64 a1_n]=jm a0_t a1_n:=by kernel_rfl
theorem uj {ε σ β:Type} {I:av ε σ} {t:Ty} {s:Sp ε σ β} {Rel:β→t.den→al→Fact} {Γ:List Fact} (a0_t:HB [.slice]) (a1_n:Int) (h:Sim Tryz.prog I t Rel noLabel none (jm a0_t a1_n) s [] Γ):MeetsO Tryz.prog I (aa fj #[.agg #[.slice a0_t.1.1 a0_t.1.2.1 a0_t.1.2.2],.int .i64 a1_n]) t s Rel Γ :=
 aj (args:=[.agg #[.slice a0_t.1.1 a0_t.1.2.1 a0_t.1.2.2],.int .i64 a1_n]) Tryz.func129 rfl rfl (Nat.le_of_ble_eq_true rfl) (by rw [uh]; exact h)
def sj:An :=
 .s (.r [some tA,none]) (.s (.s (.r [none,some ah,none,some tA,some (.c (.agg [.int .i64,.str,.int .i64,.slice,.int .i64])),some tA,some tU]) (.s (.r [none,some tI]) (.b (.s (.r [none,none]) (.c (.s (.r [none,some tI,none,none]) (.x)) (.s (.r [none,none]) (.c (.s (.r [none,some tI,none,none]) (.x)) (.x)))))))) (.s (.d (.q 2 (some (.c (.agg [.slice]))) (.q 3 none (.l 0 (some ah) (.l 1 (some tV) (.l 4 (some tB) (.q 5 none (.e)))))))) (.x)))
def iX (a0_t:HB [.slice]) (a1_n:Int):T :=
 .op (cJ ap (.agg #[.slice a0_t.1.1 a0_t.1.2.1 a0_t.1.2.2])) tA fun r1 =>
 .op (ai aw (.pointer (some r1))) ah fun r2 =>
 .op (aR aw (.slice r2.1 r2.2.1 r2.2.2) (.int .i64 a1_n)) tA fun r3 =>
 .op (ai bz (.pointer (some r3))) (.c (.agg [.int .i64,.str,.int .i64,.slice,.int .i64])) fun r4 =>
 .op (bj bz) tA fun r5 =>
 .op (aW bz (.pointer (some r5)) (.agg #[.int .i64 r4.1,.string r4.2.1,.int .i64 r4.2.2.1,.slice r4.2.2.2.1.1 r4.2.2.2.1.2.1 r4.2.2.2.1.2.2,.int .i64 r4.2.2.2.2.1])) tU fun _ =>
 .op (ai ak (.pointer (some r5))) tI fun r7 =>
 .ite ((r7:Int)==40) (
 .op (ai ak (.pointer (some ⟨r5.block,r5.off+2,none⟩))) tI fun r8 =>
 .ret #[.v (.bool ((r8:Int)==1))]) (
 .ite ((r7:Int)==47) (
 .op (ai ak (.pointer (some ⟨r5.block,r5.off+2,none⟩))) tI fun r9 =>
 .ret #[.v (.bool ((r9:Int) != 1))]) (
 .draw <|
 .opq (ai ap (.pointer (some r1))) (.c (.agg [.slice])) fun r10 =>
 .opl (ar aM 5 #[(0,.int .i64 41),(1,.int .i64 42),(2,.int .i64 49),(3,.int .i64 51),(4,.int .i64 52)]) ah fun r11 =>
 .opl (aa ca #[.slice r11.1 r11.2.1 r11.2.2]) tV fun r12 =>
 .opl (aK r12 #[.agg #[.slice r10.1.1 r10.1.2.1 r10.1.2.2],.int .i64 a1_n]) tB fun r13 =>
 .ret #[.v (.bool r13)]))
theorem tr (a0_t:HB [.slice]) (a1_n:Int):bh Tryz.prog Tryz.f174 sj [.agg #[.slice a0_t.1.1 a0_t.1.2.1 a0_t.1.2.2],.int .i64 a1_n]=iX a0_t a1_n:=by kernel_rfl
theorem te {ε σ β:Type} {I:av ε σ} {t:Ty} {s:Sp ε σ β} {Rel:β→t.den→al→Fact} {Γ:List Fact} (a0_t:HB [.slice]) (a1_n:Int) (h:Sim Tryz.prog I t Rel noLabel none (iX a0_t a1_n) s [] Γ):MeetsO Tryz.prog I (aa eJ #[.agg #[.slice a0_t.1.1 a0_t.1.2.1 a0_t.1.2.2],.int .i64 a1_n]) t s Rel Γ :=
 aj (args:=[.agg #[.slice a0_t.1.1 a0_t.1.2.1 a0_t.1.2.2],.int .i64 a1_n]) Tryz.func174 rfl rfl (Nat.le_of_ble_eq_true rfl) (by rw [tr]; exact h)
def Ar:An :=
 .s (.r [some tA,none]) (.s (.r [none,some ah,none,some tA,none,some tI,none,none,none,some ah,none,some tA,none,some tI,none,none,none]) (.x))
def nn (a0_t:HB [.slice]) (a1_n:Int):T :=
 .op (cJ ap (.agg #[.slice a0_t.1.1 a0_t.1.2.1 a0_t.1.2.2])) tA fun r1 =>
 .op (ai aw (.pointer (some r1))) ah fun r2 =>
 .op (aR aw (.slice r2.1 r2.2.1 r2.2.2) (.int .i64 a1_n)) tA fun r3 =>
 .op (ai ak (.pointer (some r3))) tI fun r4 =>
 .ite ((r4:Int)==40) (
 .op (ai aw (.pointer (some r1))) ah fun r5 =>
 .op (aR aw (.slice r5.1 r5.2.1 r5.2.2) (.int .i64 a1_n)) tA fun r6 =>
 .op (ai ak (.pointer (some ⟨r6.block,r6.off+2,none⟩))) tI fun r7 =>
 .ret #[.v (.bool ((r7:Int)==0))]) (
 .ret #[.v (.bool false)])
theorem CB (a0_t:HB [.slice]) (a1_n:Int):bh Tryz.prog Tryz.f175 Ar [.agg #[.slice a0_t.1.1 a0_t.1.2.1 a0_t.1.2.2],.int .i64 a1_n]=nn a0_t a1_n:=by kernel_rfl
theorem Cz {ε σ β:Type} {I:av ε σ} {t:Ty} {s:Sp ε σ β} {Rel:β→t.den→al→Fact} {Γ:List Fact} (a0_t:HB [.slice]) (a1_n:Int) (h:Sim Tryz.prog I t Rel noLabel none (nn a0_t a1_n) s [] Γ):MeetsO Tryz.prog I (aa gZ #[.agg #[.slice a0_t.1.1 a0_t.1.2.1 a0_t.1.2.2],.int .i64 a1_n]) t s Rel Γ :=
 aj (args:=[.agg #[.slice a0_t.1.1 a0_t.1.2.1 a0_t.1.2.2],.int .i64 a1_n]) Tryz.func175 rfl rfl (Nat.le_of_ble_eq_true rfl) (by rw [CB]; exact h)
def uy:An :=
 .s (.r [none,none,none]) (.s (.r [none,some ah,none,none,none]) (.x))
def jJ (a0_one:Value):T :=
 .op (ar aU 1 #[(0,a0_one)]) ah fun r1 =>
 .ret #[.v (.slice r1.1 r1.2.1 r1.2.2),.v (.bool true),.v (.bool true)]
theorem vx (a0_one:Value):bh Tryz.prog Tryz.f123 uy [a0_one]=jJ a0_one:=by kernel_rfl
theorem vD {ε σ β:Type} {I:av ε σ} {t:Ty} {s:Sp ε σ β} {Rel:β→t.den→al→Fact} {Γ:List Fact} (a0_one:Value) (h:Sim Tryz.prog I t Rel noLabel none (jJ a0_one) s [] Γ):MeetsO Tryz.prog I (aa fD #[a0_one]) t s Rel Γ :=
 aj (args:=[a0_one]) Tryz.func123 rfl rfl (Nat.le_of_ble_eq_true rfl) (by rw [vx]; exact h)
def uv:An :=
 .s (.r [none,none,none]) (.s (.r [none,none,none,none]) (.x))
def jM (a0_l:Option Addr × Nat × Nat):T :=
 .ret #[.v (.slice a0_l.1 a0_l.2.1 a0_l.2.2),.v (.bool false),.v (.bool true)]
theorem wd (a0_l:Option Addr × Nat × Nat):bh Tryz.prog Tryz.f124 uv [.slice a0_l.1 a0_l.2.1 a0_l.2.2]=jM a0_l:=by kernel_rfl
theorem wc {ε σ β:Type} {I:av ε σ} {t:Ty} {s:Sp ε σ β} {Rel:β→t.den→al→Fact} {Γ:List Fact} (a0_l:Option Addr × Nat × Nat) (h:Sim Tryz.prog I t Rel noLabel none (jM a0_l) s [] Γ):MeetsO Tryz.prog I (aa em #[.slice a0_l.1 a0_l.2.1 a0_l.2.2]) t s Rel Γ :=
 aj (args:=[.slice a0_l.1 a0_l.2.1 a0_l.2.2]) Tryz.func124 rfl rfl (Nat.le_of_ble_eq_true rfl) (by rw [wd]; exact h)
end
end Go.Proofs.YtjlgcpgjdgeejaaGreatDoor
end

section
namespace Go.Proofs.YtjlgcpgjdgeejaaGreatDoor
open Go
set_option linter.unusedSimpArgs false
set_option linter.unusedVariables false
section
variable {ε β:Type} {P:Program} {I:av ε Unit} {t:Ty} {Rel:β→t.den→al→Fact} {Δ:Labels ε Unit β} {md:cK} {L:al} {Γ:List Fact} {st:Unit} {run:Option (Res ε Unit β)}
theorem fU {l:Nat} {ts:List C} {vs:List Value} {body:HC ts→T} (N:Nat) (f:Nat→HC ts) (J:Nat→al→Fact) (hv:vs=HC.enc ts (f 0)) (h0:∀ F,Holds Γ F→(J 0 L).p F)
  (hb:∀ (i:Nat) (L':al) (Δ':Labels ε Unit β),i≤N→(∀ l',l'≠l→Δ' l'=Δ l') →
   (∀ {md:cK} {L2:al} {Γ2:List Fact} {vs:List Value},i < N→vs=HC.enc ts (f (i+1))→(∀ F,Holds Γ2 F→(J (i+1) L2).p F)→au P I t Rel Δ' md () (.out l vs) run L2 Γ2) →
   au P I t Rel Δ' none () (body (f i)) run L' (J i L'::Γ)):au P I t Rel Δ md st (.loop l ts vs body) run L Γ:=by
 refine sZ (ts:=ts) (δ:=Nat) f (fun i L'=>(Fact.prop (i≤N)).both (J i L')) (fun n i _=>if n=N - i+1 then run else none) (N+1) 0 hv (by simp) (fun d st=>if_neg (by omega)) (fun F hF=>⟨Nat.zero_le _,h0 F hF⟩) fun n i L' st'=>?_
 refine kg (br fun F0 hi=>?_)
 have hi':i≤N:=hi
 by_cases hg:n+1=N - i+1
 case neg=>exact cq (if_neg hg)
 rw [if_pos hg]
 refine hb i L' _ hi' (fun l' hl=>?_) fun {md L2 Γ2 vs} hlt hvs hJ=>?_
 ·show Labels.set Δ l _ l'=_
  unfold Labels.set
  rw [if_neg hl]
 ·exact sO (l:=l) (n:=n) (ts:=ts) (f:=f) (J:=fun i L'=>(Fact.prop (i≤N)).both (J i L')) (sp:=fun n i _=>if n=N - i+1 then run else none) (i+1) cn hvs (by rw [if_pos (by omega)]) fun F hF=>⟨hlt,hJ F hF⟩
theorem sU {δ:Type} {l:Nat} {ts:List C} {vs:List Value} {body:HC ts→T} (N:Nat) (f:Nat→δ→HC ts) (J:Nat→δ→al→Fact) (d0:δ) (hv:vs=HC.enc ts (f 0 d0)) (h0:∀ F,Holds Γ F→(J 0 d0 L).p F)
  (hb:∀ (i:Nat) (d:δ) (L':al) (Δ':Labels ε Unit β),i≤N→(∀ l',l'≠l→Δ' l'=Δ l') →
   (∀ {md:cK} {L2:al} {Γ2:List Fact} {vs:List Value} (d':δ),i < N→vs=HC.enc ts (f (i+1) d')→(∀ F,Holds Γ2 F→(J (i+1) d' L2).p F)→au P I t Rel Δ' md () (.out l vs) run L2 Γ2) →
   au P I t Rel Δ' none () (body (f i d)) run L' (J i d L'::Γ)):au P I t Rel Δ md st (.loop l ts vs body) run L Γ:=by
 refine sZ (ts:=ts) (δ:=Nat × δ) (fun x=>f x.1 x.2) (fun x L'=>(Fact.prop (x.1≤N)).both (J x.1 x.2 L')) (fun n x _=>if n=N - x.1+1 then run else none) (N+1) (0,d0) hv (by simp) (fun d st=>if_neg (by omega)) (fun F hF=>⟨Nat.zero_le _,h0 F hF⟩) fun n x L' st'=>?_
 obtain ⟨i,d⟩:=x
 refine kg (br fun F0 hi=>?_)
 have hi':i≤N:=hi
 by_cases hg:n+1=N - i+1
 case neg=>exact cq (if_neg hg)
 rw [if_pos hg]
 refine hb i d L' _ hi' (fun l' hl=>?_) fun {md L2 Γ2 vs} d' hlt hvs hJ=>?_
 ·show Labels.set Δ l _ l'=_
  unfold Labels.set
  rw [if_neg hl]
 ·exact sO (l:=l) (n:=n) (ts:=ts) (f:=fun x:Nat × δ=>f x.1 x.2) (J:=fun x L'=>(Fact.prop (x.1≤N)).both (J x.1 x.2 L')) (sp:=fun n x _=>if n=N - x.1+1 then run else none) (i+1,d') cn hvs (by rw [if_pos (by omega)]) fun F hF=>⟨hlt,hJ F hF⟩
end
end Go.Proofs.YtjlgcpgjdgeejaaGreatDoor
end

section
namespace Go.Proofs.YtjlgcpgjdgeejaaGreatDoor
open Go
set_option linter.unusedSimpArgs false
set_option linter.unusedVariables false
set_option linter.constructorNameAsVariable false
set_option maxRecDepth 100000
def gr (b:Nat) (x:aI):Fact:=Fact.at b (aq ap [.slice x.1 x.2.1 x.2.2])
section
variable {ε σ β:Type} {I:av ε σ} {t:Ty} {Rel:β→t.den→al→Fact} {Δ:Labels ε σ β} {md:cK} {L Lq:al} {Γ Γq:List Fact} {st:σ} {run:Option (Res ε σ β)}
theorem pD {x:aI} {es:List E} (h:cI x es∈Γ):∀ F,Holds Γ F→(Rw 5 dJ x es).p F:=fun F hF=>(hF _ h).1
theorem cA {m:T} {A:Fact} (ha:∀ F,Holds Γ F→A.p F) (h:au PG I t Rel Δ none st m run L (A::Γ)):au PG I t Rel Δ md st m run L Γ:=f0 (vq (A:=A) ha h)
theorem ee {x:aI} {k:Addr→T} (hk:∀ b,au PG I t Rel Δ none st (k ⟨b,0,none⟩) run L (gr b x::Γ)):au PG I t Rel Δ md st (.op (cJ ap (.agg #[.slice x.1 x.2.1 x.2.2])) tA k) run L Γ:=sH _ hk
theorem ln {x:aI} {b:Nat} {k:aI→T} (hb:gr b x∈Γ) (hk:au PG I t Rel Δ none st (k x) run L Γ):au PG I t Rel Δ md st (.op (ai aw (.pointer (some ⟨b,0,none⟩))) ah k) run L Γ:=uo (b1:=.slice) x hb (by kernel_rfl) rfl hk
theorem Fq {x:aI} {b:Nat} {k:aI→T} (hb:gr b x∈Γq) (hk:au PG I t Rel Δ (some (Γq,Lq)) st (k x) run L Γ):au PG I t Rel Δ (some (Γq,Lq)) st (.opq (ai aw (.pointer (some ⟨b,0,none⟩))) ah k) run L Γ:=H7 (b1:=.slice) x hb (by kernel_rfl) rfl hk
theorem gz {x:aI} {b:Nat} {k:HB [.slice]→T} (hb:gr b x∈Γ) (hk:au PG I t Rel Δ none st (k (x,())) run L Γ):au PG I t Rel Δ md st (.op (ai ap (.pointer (some ⟨b,0,none⟩))) (.c (.agg [.slice])) k) run L Γ:=If (bs:=[.slice]) (x,()) hb (by kernel_rfl) rfl hk
theorem pM {x:aI} {b:Nat} {k:HB [.slice]→T} (hb:gr b x∈Γq) (hk:au PG I t Rel Δ (some (Γq,Lq)) st (k (x,())) run L Γ):au PG I t Rel Δ (some (Γq,Lq)) st (.opq (ai ap (.pointer (some ⟨b,0,none⟩))) (.c (.agg [.slice])) k) run L Γ:=IX (bs:=[.slice]) (x,()) hb (by kernel_rfl) rfl hk
theorem D6 {m:T} {Γ':List Fact} (h:au PG I t Rel Δ none st m run L Γ') (hs:∀ A∈Γ',A∈Γ):au PG I t Rel Δ md st m run L Γ:=f0 (rp h hs)
theorem iZ {x:aI} {es:List E} {b:Nat} {e:E} {i:Int} (n:Nat) {k:Int→T} (hb:gr b x∈Γ) (hT:cI x es∈Γ) (hi:i=n) (he:es[n]? = some e) (hk:au PG I t Rel Δ none st (k e.f.kind) run L Γ) :
  au PG I t Rel Δ md st (.op (ai aw (.pointer (some ⟨b,0,none⟩))) ah fun r2=>.op (aR aw (.slice r2.1 r2.2.1 r2.2.2) (.int .i64 i)) tA fun r3=>.op (ai ak (.pointer (some r3))) tI k) run L Γ :=
 ln hb (cA (A:=Rw 5 dJ x es) (pD hT) (Co (b1:=.int .i64) (List.mem_cons_self ..) (by kernel_rfl) (by decide) (by kernel_rfl) n hi he e.f.kind rfl (rp hk fun A hA=>List.mem_cons_of_mem _ hA)))
theorem DV {x:aI} {es:List E} {b:Nat} {e:E} {i:Int} (n:Nat) {d:Nat} (hd:d < 5) {T2:TypeId} {b1:B} (v:b1.den) {k:b1.den→T} (hb:gr b x∈Γ) (hT:cI x es∈Γ) (hi:i=n) (he:es[n]? = some e) (ht:dc PG T2=some true) (hv:(dJ e)[d]? = some (b1.enc v)) (hk:au PG I t Rel Δ none st (k v) run L Γ) :
  au PG I t Rel Δ md st (.op (ai aw (.pointer (some ⟨b,0,none⟩))) ah fun r2=>.op (aR aw (.slice r2.1 r2.2.1 r2.2.2) (.int .i64 i)) tA fun r3=>.op (ai T2 (.pointer (some ⟨r3.block,r3.off+d,none⟩))) (.c (.b b1)) k) run L Γ :=
 ln hb (cA (A:=Rw 5 dJ x es) (pD hT) (LG (b1:=b1) (List.mem_cons_self ..) (by kernel_rfl) ht n hi he hd v hv (rp hk fun A hA=>List.mem_cons_of_mem _ hA)))
theorem H4 {x:aI} {es:List E} {b:Nat} {e:E} {i:Int} (n:Nat) {k:Int→T} (hb:gr b x∈Γ) (hT:cI x es∈Γ) (hi:i=n) (he:es[n]? = some e) (hk:au PG I t Rel Δ none st (k e.f.num) run L Γ) :
  au PG I t Rel Δ md st (.op (ai aw (.pointer (some ⟨b,0,none⟩))) ah fun r2=>.op (aR aw (.slice r2.1 r2.2.1 r2.2.2) (.int .i64 i)) tA fun r3=>.op (ai ak (.pointer (some ⟨r3.block,r3.off+2,none⟩))) tI k) run L Γ :=
 DV (b1:=.int .i64) n (by decide) e.f.num hb hT hi he (by kernel_rfl) rfl hk
theorem GE {x:aI} {es:List E} {b:Nat} {e:E} {i:Int} (n:Nat) {k:aI→T} (hb:gr b x∈Γ) (hT:cI x es∈Γ) (hi:i=n) (he:es[n]? = some e) (hk:e.ks.2.1=e.f.kids.length→e.f.kids.length≤1099511627776→au PG I t Rel Δ none st (k e.ks) run L (Rw 1 bS e.ks e.f.kids::Γ)) :
  au PG I t Rel Δ md st (.op (ai aw (.pointer (some ⟨b,0,none⟩))) ah fun r2=>.op (aR aw (.slice r2.1 r2.2.1 r2.2.2) (.int .i64 i)) tA fun r3=>.op (ai aM (.pointer (some ⟨r3.block,r3.off+3,none⟩))) ah k) run L Γ :=
 DV (b1:=.slice) n (by decide) e.ks hb hT hi he (by kernel_rfl) rfl (dd (φ:=e.ks.2.1=e.f.kids.length∧e.f.kids.length≤1099511627776) (fun F hF=>⟨((hF _ hT).2.1 e (List.mem_of_getElem? he)).1,((hF _ hT).2.2.2 e (List.mem_of_getElem? he)).1⟩) fun h=>cA (A:=Rw 1 bS e.ks e.f.kids) (fun F hF=>(hF _ hT).2.1 e (List.mem_of_getElem? he)) (hk h.1 h.2))
theorem li {x:aI} {l:List Int} {i:Int} (n:Nat) {k:Int→T} (hr:Rw 1 bS x l∈Γ) (hi:i=n) (hn:n < l.length) (hk:au PG I t Rel Δ none st (k l[n]) run L Γ) :
  au PG I t Rel Δ md st (.op (aR aM (.slice x.1 x.2.1 x.2.2) (.int .i64 i)) tA fun r=>.op (ai ak (.pointer (some r))) tI k) run L Γ :=
 Co (b1:=.int .i64) hr (by kernel_rfl) (by decide) (by kernel_rfl) n hi (List.getElem?_eq_getElem hn) l[n] rfl hk
theorem vW {α:Type} {n:Nat} {f:α→List Value} {x:aI} {l:List α} {m:T} (hr:Rw n f x l∈Γ) (h:x.2.1=l.length→au PG I t Rel Δ md st m run L Γ):au PG I t Rel Δ md st m run L Γ:=dd (fun F hF=>(hF _ hr).1) h
theorem sb {x:aI} {es:List E} {m:T} (hT:cI x es∈Γ) (h:x.2.1=es.length→es.length≤1099511627776→au PG I t Rel Δ md st m run L Γ):au PG I t Rel Δ md st m run L Γ:=dd (φ:=x.2.1=es.length∧es.length≤1099511627776) (fun F hF=>⟨(hF _ hT).1.1,(hF _ hT).2.2.1⟩) fun hh=>h hh.1 hh.2
end
abbrev Jb:List B:=[.int .i64,.str,.int .i64,.slice,.int .i64]
def o0 (b:Nat) (e:E):Fact:=Fact.at b (aq bz (dJ e))
section
variable {ε σ β:Type} {I:av ε σ} {t:Ty} {Rel:β→t.den→al→Fact} {Δ:Labels ε σ β} {md:cK} {L Lq:al} {Γ Γq:List Fact} {st:σ} {run:Option (Res ε σ β)}
theorem B6 {x:aI} {es:List E} {b:Nat} {e:E} {i:Int} (n:Nat) {k:Addr→T} (hb:gr b x∈Γ) (hT:cI x es∈Γ) (hi:i=n) (he:es[n]? = some e) (hk:∀ b2,au PG I t Rel Δ none st (k ⟨b2,0,none⟩) run L (o0 b2 e::Γ)) :
  au PG I t Rel Δ md st (.op (ai aw (.pointer (some ⟨b,0,none⟩))) ah fun r2=>.op (aR aw (.slice r2.1 r2.2.1 r2.2.2) (.int .i64 i)) tA fun r3=>.op (ai bz (.pointer (some r3))) (.c (.agg [.int .i64,.str,.int .i64,.slice,.int .i64])) fun r4 =>
   .op (bj bz) tA fun r5=>.op (aW bz (.pointer (some r5)) (.agg #[.int .i64 r4.1,.string r4.2.1,.int .i64 r4.2.2.1,.slice r4.2.2.2.1.1 r4.2.2.2.1.2.1 r4.2.2.2.1.2.2,.int .i64 r4.2.2.2.2.1])) tU fun _=>k r5) run L Γ:=by
 refine ln hb (cA (A:=Rw 5 dJ x es) (pD hT) ?_)
 refine Ji (bs:=Jb) d7 (List.mem_cons_self ..) (by kernel_rfl) (by kernel_rfl) n hi he (e.f.kind,e.f.text,e.f.num,e.ks,e.f.pos,()) rfl ?_
 refine E6 (c:=true) (z:=[.int .i64 0,.string kE,.int .i64 0,.slice none 0 0,.int .i64 0]) (by kernel_rfl) (by kernel_rfl) rfl (by simp [Value.cells,Value.oneCell']) fun b2=>?_
 exact rp (hk b2) fun A hA=>by
  rcases List.mem_cons.1 hA with rfl | hA
  ·exact List.mem_cons_self ..
  ·exact List.mem_cons_of_mem _ (List.mem_cons_of_mem _ hA)
theorem bK {b:Nat} {e:E} {o:Nat} {b1:B} {T2:TypeId} (v:b1.den) {k:b1.den→T} (hb:o0 b e∈Γ) (ht:dc PG T2=some true) (hv:(dJ e)[o]? = some (b1.enc v)) (hk:au PG I t Rel Δ none st (k v) run L Γ) :
  au PG I t Rel Δ md st (.op (ai T2 (.pointer (some ⟨b,o,none⟩))) (.c (.b b1)) k) run L Γ:=uo v hb ht hv hk
theorem hY {b:Nat} {e:E} {o:Nat} {b1:B} {T2:TypeId} (v:b1.den) {k:b1.den→T} (hb:o0 b e∈Γq) (ht:dc PG T2=some true) (hv:(dJ e)[o]? = some (b1.enc v)) (hk:au PG I t Rel Δ (some (Γq,Lq)) st (k v) run L Γ) :
  au PG I t Rel Δ (some (Γq,Lq)) st (.opq (ai T2 (.pointer (some ⟨b,o,none⟩))) (.c (.b b1)) k) run L Γ:=H7 v hb ht hv hk
end
theorem bI {ε:Type} {Δ:Labels ε Unit Bool} {md:cK} {L:al} {Γ:List Fact} {st:Unit} {v u:Bool} (h:u=v):au PG (I0:av ε Unit) tB (pl aJ) Δ md st (.ret #[.v (.bool u)]) ((Pure.pure v:Sp ε Unit Bool) st) L Γ:=by
 subst h
 exact eF (t:=tB) u rfl rfl
def iH (k:Int):Bool:=decide (k≥10)&&(decide (k≤34)&&k != 21)
def gI (k:Int):Bool:=decide (k≥80)&&(decide (k≤87)&&k != 85)
def stmtKs:List Int:=[40,41,42,47,49,51,52,53,54,55,56,57,58,59,60,61,63,64,65]
def xy (k:Int):Bool:=stmtKs.any fun x=>k==x
def iE (a b:Int):Int:=IntKind.i64.wrap (BitVec.ofInt IntKind.i64.bits a &&&~~~ BitVec.ofInt IntKind.i64.bits b).toNat
theorem qm {t:TypeId} (a b:Int) (w:World):(bT .andNot t (.int .i64 a) (.int .i64 b)).run PG w=.ok (.value (.int .i64 (iE a b))) w:=by
 simp [bT,cj,eqGuard,binOp,Op.intBits,iE]
inductive Pl where
 | of (ks:List Int) | rows (p:Pl) | or (a b:Pl) | any | expr | type | stmt | plain | spot | path | members | exported | isLet
def dE (ns:List FN):Nat→FN→Bool
 | 0,_=>false
 | f+1,x=>if x.kind==29 then
   (match x.kids with
   | [k]=>decide (0≤k)&&(match ns[k.toNat]? with
    | some y=>dE ns f y
    | none=>false)
   | _=>false)
  else x.kind==17
def dK (ns:List FN) (p:FN→Bool) (k:Int):Bool:=decide (0≤k)&&(match ns[k.toNat]? with
 | some y=>p y
 | none=>false)
def eI (ns:List FN):Pl→FN→Bool
 | .of ks,x=>ks.any fun k=>x.kind==k
 | .rows q,x=>x.kind==2&&x.kids.all (dK ns (eI ns q))
 | .or a b,x=>eI ns a x||eI ns b x
 | .any,_=>true
 | .expr,x=>iH x.kind
 | .type,x=>gI x.kind
 | .stmt,x=>xy x.kind
 | .plain,x=>x.kind==66&&iE x.num 1==0
 | .spot,x=>[17,29,30].any fun k=>x.kind==k
 | .path,x=>dE ns ns.length x
 | .members,x=>(x.kind==2&&x.kids.all (dK ns fun y=>[44,45,46].any fun k=>y.kind==k))&&decide ((x.kids.filter (dK ns fun y=>y.kind==46)).length < 2)
 | .exported,x=>if x.kind==40 then x.num==1 else if x.kind==47 then x.num != 1 else [41,42,49,51,52].any fun k=>x.kind==k
 | .isLet,x=>x.kind==40&&x.num==0
section
variable {ε:Type} (sl:aI) (es:List E) (n:Nat) (e:E) (he:es[n]? = some e)
include he
theorem CU:Meets PG (I0:av ε Unit) (aa ez #[.agg #[.slice sl.1 sl.2.1 sl.2.2],.int .i64 n]) tB (Pure.pure (iH e.f.kind)) aJ [cI sl es]:=by
 refine zJ (sl,()) n (bc fun st=>?_)
 unfold mD
 refine ee (x:=sl) fun b=>iZ n (List.mem_cons_self ..) (by repeat (first | exact mz | apply ms)) rfl he ?_
 refine aD (fun h=>?_) (fun h=>?_)
 ·refine aD (fun h2=>?_) (fun h2=>?_)
  ·exact bI (by unfold iH; rw [h,h2]; rfl)
  ·exact bI (by unfold iH; rw [h,h2]; rfl)
 ·exact bI (by unfold iH; rw [h]; rfl)
theorem BZ:Meets PG (I0:av ε Unit) (aa fs #[.agg #[.slice sl.1 sl.2.1 sl.2.2],.int .i64 n]) tB (Pure.pure (gI e.f.kind)) aJ [cI sl es]:=by
 refine AR (sl,()) n (bc fun st=>?_)
 unfold lQ
 refine ee (x:=sl) fun b=>iZ n (List.mem_cons_self ..) (by repeat (first | exact mz | apply ms)) rfl he ?_
 refine aD (fun h=>?_) (fun h=>?_)
 ·refine aD (fun h2=>?_) (fun h2=>?_)
  ·exact bI (by unfold gI; rw [h,h2]; rfl)
  ·exact bI (by unfold gI; rw [h,h2]; rfl)
 ·exact bI (by unfold gI; rw [h]; rfl)
theorem G4:Meets PG (I0:av ε Unit) (aa gD #[.agg #[.slice sl.1 sl.2.1 sl.2.2],.int .i64 n]) tB (Pure.pure (xy e.f.kind)) aJ [cI sl es]:=by
 refine zr (sl,()) n (bc fun st=>?_)
 unfold mb
 refine ee (x:=sl) fun b=>iZ n (List.mem_cons_self ..) (by repeat (first | exact mz | apply ms)) rfl he ?_
 unfold xy stmtKs
 repeat' refine aD (fun h=>?_) (fun h=>?_)
 all_goals exact bI (by simp only [List.any_cons,List.any_nil,Bool.or_false]; simp only [*,Bool.true_or,Bool.or_true,Bool.false_or])
theorem Gp:Meets PG (I0:av ε Unit) (aa fV #[.agg #[.slice sl.1 sl.2.1 sl.2.2],.int .i64 n]) tB (Pure.pure (e.f.kind==66&&iE e.f.num 1==0)) aJ [cI sl es]:=by
 refine yg (sl,()) n (bc fun st=>?_)
 unfold kG
 refine ee (x:=sl) fun b=>iZ n (List.mem_cons_self ..) (by repeat (first | exact mz | apply ms)) rfl he ?_
 refine aD (fun h=>?_) (fun h=>?_)
 ·refine H4 n (List.mem_cons_self ..) (by repeat (first | exact mz | apply ms)) rfl he ?_
  refine cd (t1:=tI) (iE e.f.num 1) (PVal.pure fun w=>qm _ _ w) ?_
  exact bI (by rw [show (e.f.kind==66)=true from h]; rfl)
 ·exact bI (by rw [show (e.f.kind==66)=false from h]; rfl)
theorem It:Meets PG (I0:av ε Unit) (aa gZ #[.agg #[.slice sl.1 sl.2.1 sl.2.2],.int .i64 n]) tB (Pure.pure (e.f.kind==40&&e.f.num==0)) aJ [cI sl es]:=by
 refine Cz (sl,()) n (bc fun st=>?_)
 unfold nn
 refine ee (x:=sl) fun b=>iZ n (List.mem_cons_self ..) (by repeat (first | exact mz | apply ms)) rfl he ?_
 refine aD (fun h=>?_) (fun h=>?_)
 ·refine H4 n (List.mem_cons_self ..) (by repeat (first | exact mz | apply ms)) rfl he ?_
  exact bI (by rw [show (e.f.kind==40)=true from h]; rfl)
 ·exact bI (by rw [show (e.f.kind==40)=false from h]; rfl)
end
theorem JX {ε:Type} (sl:aI) (n:Int):Meets PG (I0:av ε Unit) (aa jV #[.agg #[.slice sl.1 sl.2.1 sl.2.2],.int .i64 n]) tB (Pure.pure true) aJ []:=by
 refine Fg (sl,()) n (bc fun st=>?_)
 unfold qy
 first
 | exact bI rfl
 | exact ee (x:=sl) fun b=>bI rfl
theorem qN {ε:Type} (sl:aI) (es:List E) (k:Int):Meets PG (I0:av ε Unit) (aa gE #[.agg #[.slice sl.1 sl.2.1 sl.2.2],.int .i64 k]) tB (Pure.pure (decide (0≤k)&&decide (k < es.length))) aJ [cI sl es]:=by
 refine AO (sl,()) k (bc fun st=>?_)
 unfold me
 refine ee (x:=sl) fun b=>?_
 refine aD (fun h=>?_) (fun h=>?_)
 ·refine ln (List.mem_cons_self ..) (sb (by repeat (first | exact mz | apply ms)) fun hl _=>?_)
  exact bI (by rw [show decide (0≤k)=true from h,hl]; rfl)
 ·exact bI (by rw [show decide (0≤k)=false from h]; rfl)
end Go.Proofs.YtjlgcpgjdgeejaaGreatDoor
end

section
namespace Go.Proofs.YtjlgcpgjdgeejaaGreatDoor
open Go
set_option linter.unusedSimpArgs false
set_option linter.unusedVariables false
set_option linter.constructorNameAsVariable false
set_option maxRecDepth 100000
theorem fQ {b:Bool} (h:(!b)=true):b=false:=by cases b<;>simp_all
theorem eO {b:Bool} (h:(!b)=false):b=true:=by cases b<;>simp_all
def aT (f:FuncId) (cap:Array Value):Value:=.func (.func f) #[] cap
def PlaceP (F:Heap):Pl→Value→Prop
 | .of ks,v=>∃ b x,v=aT i4 #[.pointer (some ⟨b,0,none⟩)]∧F b=some (aq aM [.slice x.1 x.2.1 x.2.2])∧(Rw 1 bS x ks).p F∧ks.length≤1099511627776
 | .rows q,v=>∃ b u,v=aT gB #[.pointer (some ⟨b,0,none⟩)]∧F b=some (aq cu [u])∧PlaceP F q u
 | .or p q,v=>∃ b c u u',v=aT i8 #[.pointer (some ⟨b,0,none⟩),.pointer (some ⟨c,0,none⟩)]∧F b=some (aq cu [u])∧F c=some (aq cu [u'])∧PlaceP F p u∧PlaceP F q u'
 | .any,v=>v=aT jV #[]
 | .expr,v=>v=aT ez #[]
 | .type,v=>v=aT fs #[]
 | .stmt,v=>v=aT gD #[]
 | .plain,v=>v=aT fV #[]
 | .spot,v=>v=aT gv #[]
 | .path,v=>v=aT gA #[]
 | .members,v=>v=aT fj #[]
 | .exported,v=>v=aT eJ #[]
 | .isLet,v=>v=aT gZ #[]
theorem PlaceP.mono {F F':Heap} (hl:F.le F'):∀ {p:Pl} {v:Value},PlaceP F p v→PlaceP F' p v
 | .of ks,v,⟨b,x,h1,h2,h3,h4⟩=>⟨b,x,h1,hl _ _ h2,(Rw 1 bS x ks).mono F F' hl h3,h4⟩
 | .rows q,v,⟨b,u,h1,h2,h3⟩=>⟨b,u,h1,hl _ _ h2,h3.mono hl⟩
 | .or p q,v,⟨b,c,u,u',h1,h2,h3,h4,h5⟩=>⟨b,c,u,u',h1,hl _ _ h2,hl _ _ h3,h4.mono hl,h5.mono hl⟩
 | .any,_,h=>h
 | .expr,_,h=>h
 | .type,_,h=>h
 | .stmt,_,h=>h
 | .plain,_,h=>h
 | .spot,_,h=>h
 | .path,_,h=>h
 | .members,_,h=>h
 | .exported,_,h=>h
 | .isLet,_,h=>h
def aX (v:Value) (p:Pl):Fact:=⟨fun F=>PlaceP F p v,fun F F' hl h=>h.mono hl⟩
theorem GH (f:FuncId) (a b:Value) (w:World):(aK (aT f #[]) #[a,b]).run PG w=(aa f #[a,b]).run PG w:=by unfold aT; rw [eS]; rfl
theorem Cv (f:FuncId) (a b c:Value) (w:World):(aK (aT f #[c]) #[a,b]).run PG w=(aa f #[a,b,c]).run PG w:=by unfold aT; rw [eS]; rfl
theorem Hw (f:FuncId) (a b c d:Value) (w:World):(aK (aT f #[c,d]) #[a,b]).run PG w=(aa f #[a,b,c,d]).run PG w:=by unfold aT; rw [eS]; rfl
theorem oN {v:Value} {p:Pl} {F:Heap} (h:(aX v p).p F):v.cells.toList=[v]:=by
 have h':PlaceP F p v:=h
 cases p with
 | of ks=>obtain ⟨b,x,rfl,_⟩:=h'; rfl
 | rows q=>obtain ⟨b,u,rfl,_⟩:=h'; rfl
 | or p q=>obtain ⟨b,c,u,u',rfl,_⟩:=h'; rfl
 | any=>obtain rfl:v=_:=h'; rfl
 | expr=>obtain rfl:v=_:=h'; rfl
 | type=>obtain rfl:v=_:=h'; rfl
 | stmt=>obtain rfl:v=_:=h'; rfl
 | plain=>obtain rfl:v=_:=h'; rfl
 | spot=>obtain rfl:v=_:=h'; rfl
 | path=>obtain rfl:v=_:=h'; rfl
 | members=>obtain rfl:v=_:=h'; rfl
 | exported=>obtain rfl:v=_:=h'; rfl
 | isLet=>obtain rfl:v=_:=h'; rfl
theorem n7 {ε σ β α γ:Type} {I:av ε σ} {t:Ty} {Rel:β→t.den→al→Fact} {Δ:Labels ε σ β} {md:cK} {L K:al} {Γ:List Fact} {st:σ} {run:Option (Res ε σ β)} {Rel1:α→γ→Fact} {b:α} {x:γ} {m:T}
  (h:K=[]→au PG I t Rel Δ md st m run (K++L) (Rel1 b x::Γ)):au PG I t Rel Δ md st m run (K++L) (pl Rel1 b x K::Γ):=fun H r w F res S h1 hF=>by
 obtain ⟨hK,hR⟩:=hF _ (List.mem_cons_of_mem _ (List.mem_cons_self ..))
 have hK':K=[]:=hK
 exact h hK' H r w F res S h1 (Holds.cons (hF _ (List.mem_cons_self ..)) (Holds.cons hR fun A hA=>hF A (List.mem_cons_of_mem _ (List.mem_cons_of_mem _ hA))))
theorem Bc {ε:Type} (x:aI) (ks:List Int) (hks:ks.length≤1099511627776):Meets PG (I0:av ε Unit) (aa ca #[.slice x.1 x.2.1 x.2.2]) tV (Pure.pure (.of ks)) (fun p v=>aX v p) [Rw 1 bS x ks]:=by
 refine FC x (bc fun st=>?_)
 unfold se
 refine sH _ fun b=>?_
 refine cY (t:=tV) (Pl.of ks) (aT i4 #[.pointer (some ⟨b,0,none⟩)]) rfl (fun r w F H _ _=>by rw [dj]; rfl) fun F hF=>?_
 exact ⟨b,x,rfl,hF (Fact.at b _) (List.mem_cons_self ..),hF (Rw 1 bS x ks) (by repeat (first | exact mz | apply ms)),hks⟩
theorem DQ {ε:Type} (v:Value) (q:Pl):Meets PG (I0:av ε Unit) (aa cU #[v]) tV (Pure.pure (.rows q)) (fun p v=>aX v p) [aX v q]:=by
 refine Dy v (bc fun st=>?_)
 unfold oK
 refine dd (φ:=v.cells.toList=[v]) (fun F hF=>oN (hF (aX v q) (by repeat (first | exact mz | apply ms)))) fun hc=>?_
 refine sH _ fun b=>?_
 refine cY (t:=tV) (Pl.rows q) (aT gB #[.pointer (some ⟨b,0,none⟩)]) rfl (fun r w F H _ _=>by rw [dj]; rfl) fun F hF=>?_
 refine ⟨b,v,rfl,?_,hF (aX v q) (by repeat (first | exact mz | apply ms))⟩
 have:=hF (Fact.at b _) (List.mem_cons_self ..)
 rw [hc] at this
 exact this
theorem KO {ε:Type} (v u:Value) (p q:Pl):Meets PG (I0:av ε Unit) (aa dz #[v,u]) tV (Pure.pure (.or p q)) (fun p v=>aX v p) [aX v p,aX u q]:=by
 refine Gs v u (bc fun st=>?_)
 unfold rC
 refine dd (φ:=v.cells.toList=[v]) (fun F hF=>oN (hF (aX v p) (by repeat (first | exact mz | apply ms)))) fun hc=>?_
 refine dd (φ:=u.cells.toList=[u]) (fun F hF=>oN (hF (aX u q) (by repeat (first | exact mz | apply ms)))) fun hc2=>?_
 refine sH _ fun b=>sH _ fun c=>?_
 refine cY (t:=tV) (Pl.or p q) (aT i8 #[.pointer (some ⟨b,0,none⟩),.pointer (some ⟨c,0,none⟩)]) rfl (fun r w F H _ _=>by rw [dj]; rfl) fun F hF=>?_
 refine ⟨b,c,v,u,rfl,?_,?_,hF (aX v p) (by repeat (first | exact mz | apply ms)),hF (aX u q) (by repeat (first | exact mz | apply ms))⟩
 ·have:=hF (Fact.at b (aq cu v.cells.toList)) (by repeat (first | exact mz | apply ms))
  rw [hc] at this
  exact this
 ·have:=hF (Fact.at c (aq cu u.cells.toList)) (List.mem_cons_self ..)
  rw [hc2] at this
  exact this
section
variable {ε:Type} (sl:aI) (es:List E) (n:Nat) (e:E) (he:es[n]? = some e)
include he
theorem KP (b:Nat) (x:aI) (ks:List Int) (hks:ks.length≤1099511627776):Meets PG (I0:av ε Unit) (aa i4 #[.agg #[.slice sl.1 sl.2.1 sl.2.2],.int .i64 n,.pointer (some ⟨b,0,none⟩)]) tB (Pure.pure (ks.any fun k=>e.f.kind==k)) aJ
  [Fact.at b (aq aM [.slice x.1 x.2.1 x.2.2]),Rw 1 bS x ks,cI sl es]:=by
 refine CW (sl,()) n ⟨b,0,none⟩ (bc fun st=>?_)
 obtain rfl:st=():=rfl
 unfold oO
 refine ee (x:=sl) fun b1=>uo (b1:=.slice) x (by repeat (first | exact mz | apply ms)) (by kernel_rfl) rfl ?_
 refine vW (n:=1) (f:=bS) (x:=x) (l:=ks) (by repeat (first | exact mz | apply ms)) fun hl=>?_
 refine fU (ts:=[.b (.int .i64)]) ks.length (fun i=>((i:Int),())) (fun i L'=>Fact.prop (L'=[]∧(ks.take i).any (fun k=>e.f.kind==k)=false)) rfl (fun F hF=>⟨rfl,rfl⟩) fun i L' Δ' hi hΔ out=>?_
 refine br fun F0 hx=>?_
 obtain ⟨rfl,hno⟩:=hx
 refine aD (fun h=>?_) (fun h=>?_)
 ·have hi':i < ks.length:=by have h':(i:Int) < (x.2.1:Int):=of_decide_eq_true h; omega
  refine li i (by repeat (first | exact mz | apply ms)) rfl hi' ?_
  refine iZ n (List.mem_cons_self ..) (by repeat (first | exact mz | apply ms)) rfl he ?_
  refine aD (fun h2=>?_) (fun h2=>?_)
  ·exact bI (by
    symm
    exact List.any_eq_true.2 ⟨ks[i],List.getElem_mem ..,h2⟩)
  ·refine out hi' ?_ fun F hF=>⟨rfl,?_⟩
   ·show [Value.int .i64 (IntKind.i64.wrap ((i:Int)+1))]=[Value.int .i64 ((i+1:Nat):Int)]
    rw [aS (by omega) (by omega)]; rfl
   ·rw [List.take_add_one,List.getElem?_eq_getElem hi',List.any_append,hno]
    show (false||([ks[i]].any fun k=>e.f.kind==k))=false
    rw [List.any_cons,show (e.f.kind==ks[i])=false from h2]; rfl
 ·have hi':¬ i < ks.length:=by have h':¬ (i:Int) < (x.2.1:Int):=of_decide_eq_false h; omega
  rw [List.take_of_length_le (by omega)] at hno
  exact bI hno.symm
omit he in
theorem KH (p q:Pl) (ns:List FN) (b c:Nat) (u u':Value) (hp:Meets PG (I0:av ε Unit) (aK u #[.agg #[.slice sl.1 sl.2.1 sl.2.2],.int .i64 n]) tB (Pure.pure (eI ns p e.f)) aJ [aX u p,cI sl es])
  (hq:Meets PG (I0:av ε Unit) (aK u' #[.agg #[.slice sl.1 sl.2.1 sl.2.2],.int .i64 n]) tB (Pure.pure (eI ns q e.f)) aJ [aX u' q,cI sl es]) :
  Meets PG (I0:av ε Unit) (aa i8 #[.agg #[.slice sl.1 sl.2.1 sl.2.2],.int .i64 n,.pointer (some ⟨b,0,none⟩),.pointer (some ⟨c,0,none⟩)]) tB (Pure.pure (eI ns p e.f||eI ns q e.f)) aJ
  [Fact.at b (aq cu [u]),Fact.at c (aq cu [u']),aX u p,aX u' q,cI sl es]:=by
 refine Dj (sl,()) n ⟨b,0,none⟩ ⟨c,0,none⟩ (bc fun st=>?_)
 unfold ow
 refine ee (x:=sl) fun b1=>uo (b1:=.val) u (by repeat (first | exact mz | apply ms)) (by kernel_rfl) rfl (gz (List.mem_cons_self ..) ?_)
 refine bW hp (fun A hA=>by
  rcases List.mem_cons.1 hA with rfl | hA
  ·exact (by repeat (first | exact mz | apply ms))
  ·obtain rfl:=List.mem_singleton.1 hA; exact (by repeat (first | exact mz | apply ms))) ?_
 refine aD (fun h=>?_) (fun h=>?_)
 ·exact bI (by rw [show eI ns p e.f=true from h]; rfl)
 ·refine uo (b1:=.val) u' (by repeat (first | exact mz | apply ms)) (by kernel_rfl) rfl (gz (List.mem_cons_self ..) ?_)
  refine bW hq (fun A hA=>by
   rcases List.mem_cons.1 hA with rfl | hA
   ·exact (by repeat (first | exact mz | apply ms))
   ·obtain rfl:=List.mem_singleton.1 hA; exact (by repeat (first | exact mz | apply ms))) ?_
  exact bI (by rw [show eI ns p e.f=false from h]; rfl)
end
theorem BG {es:List E} {k:Int} (h0:0≤k) (h1:k < es.length):∃ j:Nat,∃ e:E,k=j∧es[j]? = some e∧(es.map (·.f))[k.toNat]? = some e.f:=by
 obtain ⟨j,rfl⟩:=Int.eq_ofNat_of_zero_le h0
 have hj:j < es.length:=by omega
 exact ⟨j,es[j],rfl,List.getElem?_eq_getElem hj,by simp [List.getElem?_eq_getElem hj]⟩
theorem Iz {ε:Type} (sl:aI) (es:List E) (n:Nat) (e:E) (he:es[n]? = some e) (q:Pl) (b:Nat) (u:Value)
  (hq:∀ (j:Nat) (y:E),es[j]? = some y→Meets PG (I0:av ε Unit) (aK u #[.agg #[.slice sl.1 sl.2.1 sl.2.2],.int .i64 j]) tB (Pure.pure (eI (es.map (·.f)) q y.f)) aJ [aX u q,cI sl es]) :
  Meets PG (I0:av ε Unit) (aa gB #[.agg #[.slice sl.1 sl.2.1 sl.2.2],.int .i64 n,.pointer (some ⟨b,0,none⟩)]) tB (Pure.pure (e.f.kind==2&&e.f.kids.all (dK (es.map (·.f)) (eI (es.map (·.f)) q)))) aJ
  [Fact.at b (aq cu [u]),aX u q,cI sl es]:=by
 refine zp (sl,()) n ⟨b,0,none⟩ (bc fun st=>?_)
 obtain rfl:st=():=rfl
 unfold mo
 refine ee (x:=sl) fun b1=>iZ n (List.mem_cons_self ..) (by repeat (first | exact mz | apply ms)) rfl he ?_
 refine aD (fun h=>?_) (fun h=>?_)
 ·exact bI (by
   have h':(e.f.kind==2)=false:=by have:(!(e.f.kind==2))=true:=h; simpa using this
   rw [h']; rfl)
 have hk2:(e.f.kind==2)=true:=by have:(!(e.f.kind==2))=false:=h; simpa using this
 refine GE n (List.mem_cons_self ..) (by repeat (first | exact mz | apply ms)) rfl he fun hl hle=>?_
 refine fU (ts:=[.b (.int .i64)]) e.f.kids.length (fun i=>((i:Int),())) (fun i L'=>Fact.prop (L'=[]∧(e.f.kids.take i).all (dK (es.map (·.f)) (eI (es.map (·.f)) q))=true)) rfl (fun F hF=>⟨rfl,rfl⟩) fun i L' Δ' hi hΔ out=>?_
 refine br fun F0 hx=>?_
 obtain ⟨rfl,hall⟩:=hx
 refine aD (fun h=>?_) (fun h=>?_)
 ·have hi':i < e.f.kids.length:=by have h':(i:Int) < (e.ks.2.1:Int):=of_decide_eq_true h; omega
  have bad:dK (es.map (·.f)) (eI (es.map (·.f)) q) e.f.kids[i]=false→false=(e.f.kind==2&&e.f.kids.all (dK (es.map (·.f)) (eI (es.map (·.f)) q))):=fun hb=>by
   symm
   rw [hk2,Bool.true_and]
   exact List.all_eq_false.2 ⟨e.f.kids[i],List.getElem_mem ..,by rw [hb]; decide⟩
  refine li i (by repeat (first | exact mz | apply ms)) rfl hi' (gz (b:=b1) (x:=sl) (by repeat (first | exact mz | apply ms)) ?_)
  refine bW (qN sl es e.f.kids[i]) (fun A hA=>by obtain rfl:=List.mem_singleton.1 hA; exact (by repeat (first | exact mz | apply ms))) ?_
  refine aD (fun h2=>?_) (fun h2=>?_)
  ·refine bI (bad ?_)
   have h2':(decide (0≤e.f.kids[i])&&decide (e.f.kids[i] < es.length))=false:=fQ h2
   unfold dK
   by_cases h0:0≤e.f.kids[i]
   ·have h3:¬ e.f.kids[i] < es.length:=fun h3=>by simp [h0,h3] at h2'
    rw [List.getElem?_eq_none (by rw [List.length_map]; omega)]
    simp
   ·simp [h0]
  ·have h2':(decide (0≤e.f.kids[i])&&decide (e.f.kids[i] < es.length))=true:=eO h2
   rw [Bool.and_eq_true,decide_eq_true_eq,decide_eq_true_eq] at h2'
   obtain ⟨j,y,hj,hy,hns⟩:=BG h2'.1 h2'.2
   have hkid:dK (es.map (·.f)) (eI (es.map (·.f)) q) e.f.kids[i]=eI (es.map (·.f)) q y.f:=by unfold dK; rw [hns,decide_eq_true h2'.1]; rfl
   rw [hj]
   refine uo (b1:=.val) (b:=b) u (by repeat (first | exact mz | apply ms)) (by kernel_rfl) rfl (gz (b:=b1) (x:=sl) (by repeat (first | exact mz | apply ms)) ?_)
   refine bW (hq j y hy) (fun A hA=>by
    rcases List.mem_cons.1 hA with rfl | hA
    ·exact (by repeat (first | exact mz | apply ms))
    ·obtain rfl:=List.mem_singleton.1 hA; exact (by repeat (first | exact mz | apply ms))) ?_
   refine aD (fun h3=>?_) (fun h3=>?_)
   ·refine bI (bad ?_)
    rw [hkid]
    have:(!(eI (es.map (·.f)) q y.f))=true:=h3
    simpa using this
   ·refine out hi' ?_ fun F hF=>⟨rfl,?_⟩
    ·show [Value.int .i64 (IntKind.i64.wrap ((i:Int)+1))]=[Value.int .i64 ((i+1:Nat):Int)]
     rw [aS (by omega) (by omega)]; rfl
    ·have h3':eI (es.map (·.f)) q y.f=true:=by have:(!(eI (es.map (·.f)) q y.f))=false:=h3; simpa using this
     rw [List.take_add_one,List.getElem?_eq_getElem hi',List.all_append,hall]
     show (true&&([e.f.kids[i]].all _))=true
     rw [List.all_cons,hkid,h3']; rfl
 ·have hi':¬ i < e.f.kids.length:=by have h':¬ (i:Int) < (e.ks.2.1:Int):=of_decide_eq_false h; omega
  rw [List.take_of_length_le (by omega)] at hall
  exact bI (by rw [hk2,hall]; rfl)
end Go.Proofs.YtjlgcpgjdgeejaaGreatDoor
end

section
namespace Go.Proofs.YtjlgcpgjdgeejaaGreatDoor
open Go
set_option linter.unusedSimpArgs false
set_option linter.unusedVariables false
set_option linter.constructorNameAsVariable false
set_option maxRecDepth 100000
theorem qM (ks:List Int) {L:al} {Γ:List Fact} {n:Nat} {ps:Array (Nat × Value)} (h1:n≤10000) (hn:0 < n)
  (hf:Instr.fill (fun i=>some (i * 1,1)) ((Array.range (n * 1)).map ((Value.int .i64 0).cells[· % (Value.int .i64 0).cells.size]!)) ps.toList=some (rows bS ks).toArray) (hl:ks.length=n) :
  Loc PG (ar aM n ps) ah L Γ fun y L' Γ'=>L'=L∧Γ'=Rw 1 bS y ks::Γ:=by
 intro r w F H hF hsp
 have h:=Cm (f:=bS) ks (e:=ak) (size:=1) (z:=.int .i64 0) (t:=aM) (n:=n) (ps:=ps) (L:=L) (Γ:=Γ) (by kernel_rfl) (by kernel_rfl) (by decide) (by omega) hn hf hl kL r w F H hF hsp
 refine bJ ?_ (fun _ _ h=>h) _ h
 rintro v w' ⟨x,L',Γ',F',hv,hle,hΓ',hsp',h2,rfl,rfl⟩
 exact ⟨x,L',Rw 1 bS x ks::Γ,F',hv,hle,Holds.cons (Sl.rw kL (hΓ' _ (List.mem_cons_self ..))) (fun A hA=>hΓ' A (List.mem_cons_of_mem _ hA)),hsp',rfl,rfl⟩
theorem sP {ε:Type} (sl:aI) (es:List E) (n:Nat) (e:E) (he:es[n]? = some e) (v:Value) (ks:List Int):Meets PG (I0:av ε Unit) (aK v #[.agg #[.slice sl.1 sl.2.1 sl.2.2],.int .i64 n]) tB (Pure.pure (ks.any fun k=>e.f.kind==k)) aJ [aX v (.of ks),cI sl es]:=by
 intro r w F H st res hs hΓ hi hsp
 obtain ⟨b,x,rfl,h1,h2,h3⟩:=(show PlaceP F (.of ks) v from hΓ _ (List.mem_cons_self ..))
 rw [Cv]
 exact KP sl es n e he b x ks h3 r w F H st res hs (Holds.cons h1 (Holds.cons h2 (Holds.cons (hΓ (cI sl es) (by repeat (first | exact mz | apply ms))) fun _ h=>nomatch h))) hi hsp
section
variable {ε:Type} (sl:aI) (es:List E) (n:Nat) (e:E) (he:es[n]? = some e)
include he
theorem Ht:Meets PG (I0:av ε Unit) (aa gv #[.agg #[.slice sl.1 sl.2.1 sl.2.2],.int .i64 n]) tB (Pure.pure ([17,29,30].any fun k=>e.f.kind==k)) aJ [cI sl es]:=by
 refine Ag (sl,()) n (bc fun st=>?_)
 unfold l3
 refine ee (x:=sl) fun b=>dv [] (fun _ h=>nomatch h) (pM (List.mem_cons_self ..) ?_)
 refine re (qM [17,29,30] (by decide) (by decide) (by kernel_rfl) rfl) ?_
 rintro y _ _ ⟨rfl,rfl⟩
 refine ⟨(fun _ h=>nomatch h),?_⟩
 refine sN (Bc y [17,29,30] (by decide)) (fun A hA=>by obtain rfl:=List.mem_singleton.1 hA; exact (by repeat (first | exact mz | apply ms))) (fun _ h=>nomatch h) fun v K=>?_
 refine n7 fun hK=>?_
 subst hK
 refine nk (sP sl es n e he v [17,29,30]) (fun A hA=>by
  rcases List.mem_cons.1 hA with rfl | hA
  ·exact (by repeat (first | exact mz | apply ms))
  ·obtain rfl:=List.mem_singleton.1 hA; exact (by repeat (first | exact mz | apply ms))) (fun _ h=>nomatch h) ?_
 exact bI rfl
theorem Cn:Meets PG (I0:av ε Unit) (aa eJ #[.agg #[.slice sl.1 sl.2.1 sl.2.2],.int .i64 n]) tB (Pure.pure (if e.f.kind==40 then e.f.num==1 else if e.f.kind==47 then e.f.num != 1 else [41,42,49,51,52].any fun k=>e.f.kind==k)) aJ [cI sl es]:=by
 refine te (sl,()) n (bc fun st=>?_)
 unfold iX
 refine ee (x:=sl) fun b=>B6 n (List.mem_cons_self ..) (by repeat (first | exact mz | apply ms)) rfl he fun b2=>?_
 refine bK (b1:=.int .i64) e.f.kind (List.mem_cons_self ..) (by kernel_rfl) rfl ?_
 refine aD (fun h=>?_) (fun h=>?_)
 ·refine bK (b1:=.int .i64) e.f.num (List.mem_cons_self ..) (by kernel_rfl) rfl ?_
  exact bI (by rw [show (e.f.kind==40)=true from h]; rfl)
 ·rw [show (e.f.kind==40)=false from h]
  refine aD (fun h2=>?_) (fun h2=>?_)
  ·refine bK (b1:=.int .i64) e.f.num (List.mem_cons_self ..) (by kernel_rfl) rfl ?_
   exact bI (by rw [show (e.f.kind==47)=true from h2]; rfl)
  ·rw [show (e.f.kind==47)=false from h2]
   refine dv [] (fun _ h=>nomatch h) (pM (b:=b) (by repeat (first | exact mz | apply ms)) ?_)
   refine re (qM [41,42,49,51,52] (by decide) (by decide) (by kernel_rfl) rfl) ?_
   rintro y _ _ ⟨rfl,rfl⟩
   refine ⟨(fun _ h=>nomatch h),?_⟩
   refine sN (Bc y [41,42,49,51,52] (by decide)) (fun A hA=>by obtain rfl:=List.mem_singleton.1 hA; exact (by repeat (first | exact mz | apply ms))) (fun _ h=>nomatch h) fun v K=>?_
   refine n7 fun hK=>?_
   subst hK
   refine nk (sP sl es n e he v [41,42,49,51,52]) (fun A hA=>by
    rcases List.mem_cons.1 hA with rfl | hA
    ·exact (by repeat (first | exact mz | apply ms))
    ·obtain rfl:=List.mem_singleton.1 hA; exact (by repeat (first | exact mz | apply ms))) (fun _ h=>nomatch h) ?_
   exact bI rfl
end
end Go.Proofs.YtjlgcpgjdgeejaaGreatDoor
end

section
namespace Go.Proofs.YtjlgcpgjdgeejaaGreatDoor
open Go
set_option linter.unusedSimpArgs false
set_option linter.unusedVariables false
set_option linter.constructorNameAsVariable false
set_option maxRecDepth 100000
theorem y5 {ε:Type} (sl:aI) (es:List E) (n:Nat) (e:E) (he:es[n]? = some e) (v:Value) (q:Pl)
  (hq:∀ (u:Value) (j:Nat) (y:E),es[j]? = some y→Meets PG (I0:av ε Unit) (aK u #[.agg #[.slice sl.1 sl.2.1 sl.2.2],.int .i64 j]) tB (Pure.pure (eI (es.map (·.f)) q y.f)) aJ [aX u q,cI sl es]) :
  Meets PG (I0:av ε Unit) (aK v #[.agg #[.slice sl.1 sl.2.1 sl.2.2],.int .i64 n]) tB (Pure.pure (eI (es.map (·.f)) (.rows q) e.f)) aJ [aX v (.rows q),cI sl es]:=by
 intro r w F H st res hs hΓ hi hsp
 obtain ⟨b,u,rfl,h1,h2⟩:=(show PlaceP F (.rows q) v from hΓ _ (List.mem_cons_self ..))
 rw [Cv]
 exact Iz sl es n e he q b u (hq u) r w F H st res hs (Holds.cons h1 (Holds.cons h2 (Holds.cons (hΓ (cI sl es) (by repeat (first | exact mz | apply ms))) fun _ h=>nomatch h))) hi hsp
theorem Fz {ns:List FN} {p:FN→Bool} {k:Int} (h:dK ns p k=true):∃ (j:Nat) (y:FN),k=j∧ns[j]? = some y∧p y=true:=by
 unfold dK at h
 rw [Bool.and_eq_true,decide_eq_true_eq] at h
 obtain ⟨j,rfl⟩:=Int.eq_ofNat_of_zero_le h.1
 have h2:=h.2
 rw [Int.toNat_natCast] at h2
 cases hy:ns[j]? with
 | none=>rw [hy] at h2; cases h2
 | some y=>rw [hy] at h2; exact ⟨j,y,rfl,hy,h2⟩
theorem j5 (ns:List FN) (f:Nat) (x:FN):dE ns (f+1) x=if x.kind==29 then
   (match x.kids with
   | [k]=>decide (0≤k)&&(match ns[k.toNat]? with
    | some y=>dE ns f y
    | none=>false)
   | _=>false)
  else x.kind==17:=rfl
theorem FP {ns:List FN} {f:Nat} {x:FN} (h:(x.kind==29)=true) (hk:x.kids=[]):dE ns (f+1) x=false:=by rw [j5,if_pos h,hk]
theorem Gv {ns:List FN} {f:Nat} {x:FN} {a b:Int} {l:List Int} (h:(x.kind==29)=true) (hk:x.kids=a::b::l):dE ns (f+1) x=false:=by rw [j5,if_pos h,hk]
theorem GK {ns:List FN} {f:Nat} {x y:FN} {a:Int} (h:(x.kind==29)=true) (hk:x.kids=[a]) (h0:0≤a) (hy:ns[a.toNat]? = some y):dE ns (f+1) x=dE ns f y:=by
 rw [j5,if_pos h,hk]
 show (decide (0≤a)&&(match ns[a.toNat]? with | some y=>dE ns f y | none=>false))=_
 rw [hy,decide_eq_true h0]; rfl
theorem FO {ns:List FN} {f:Nat} {x:FN} {a:Int} (h:(x.kind==29)=true) (hk:x.kids=[a]) (h0:0≤a→ns.length≤a.toNat):dE ns (f+1) x=false:=by
 rw [j5,if_pos h,hk]
 show (decide (0≤a)&&(match ns[a.toNat]? with | some y=>dE ns f y | none=>false))=_
 by_cases h1:0≤a
 ·rw [List.getElem?_eq_none (h0 h1)]; simp
 ·rw [decide_eq_false h1]; rfl
section
variable {ε:Type} (sl:aI) (es:List E) (n:Nat) (e:E) (he:es[n]? = some e)
include he
theorem DA:Meets PG (I0:av ε Unit) (aa fj #[.agg #[.slice sl.1 sl.2.1 sl.2.2],.int .i64 n]) tB (Pure.pure (eI (es.map (·.f)) .members e.f)) aJ [cI sl es]:=by
 refine uj (sl,()) n (bc fun st=>?_)
 obtain rfl:st=():=rfl
 unfold jm
 refine ee (x:=sl) fun b=>dv [] (fun _ h=>nomatch h) (pM (List.mem_cons_self ..) ?_)
 refine re (qM [44,45,46] (by decide) (by decide) (by kernel_rfl) rfl) ?_
 rintro y _ _ ⟨rfl,rfl⟩
 refine ⟨(fun _ h=>nomatch h),?_⟩
 refine sN (Bc y [44,45,46] (by decide)) (fun A hA=>by obtain rfl:=List.mem_singleton.1 hA; exact (by repeat (first | exact mz | apply ms))) (fun _ h=>nomatch h) fun v K=>?_
 refine n7 fun hK=>?_
 subst hK
 refine sN (DQ v (.of [44,45,46])) (fun A hA=>by obtain rfl:=List.mem_singleton.1 hA; exact (by repeat (first | exact mz | apply ms))) (fun _ h=>nomatch h) fun v2 K=>?_
 refine n7 fun hK=>?_
 subst hK
 refine nk (y5 sl es n e he v2 (.of [44,45,46]) fun u j y hy=>sP sl es j y hy u [44,45,46]) (fun A hA=>by
  rcases List.mem_cons.1 hA with rfl | hA
  ·exact (by repeat (first | exact mz | apply ms))
  ·obtain rfl:=List.mem_singleton.1 hA; exact (by repeat (first | exact mz | apply ms))) (fun _ h=>nomatch h) ?_
 refine aD (fun h=>?_) (fun h=>?_)
 ·exact bI (by
   have h':=fQ h
   show false=(eI (es.map (·.f)) (.rows (.of [44,45,46])) e.f&&_)
   rw [h']; rfl)
 have h':=eO h
 have hall:e.f.kids.all (dK (es.map (·.f)) (eI (es.map (·.f)) (.of [44,45,46])))=true:=(Bool.and_eq_true _ _▸h').2
 have hev:eI (es.map (·.f)) .members e.f=decide ((e.f.kids.filter (dK (es.map (·.f)) fun y=>y.kind==46)).length < 2):=by
  show (eI (es.map (·.f)) (.rows (.of [44,45,46])) e.f&&_)=_
  rw [h']; rfl
 rw [hev]
 refine GE (b:=b) n (by repeat (first | exact mz | apply ms)) (by repeat (first | exact mz | apply ms)) rfl he fun hl hle=>?_
 have hcnt:∀ i,((e.f.kids.take i).filter (dK (es.map (·.f)) fun y=>y.kind==46)).length≤i:=fun i=>Nat.le_trans (List.length_filter_le ..) (by rw [List.length_take]; omega)
 refine fU (ts:=[.b (.int .i64),.b (.int .i64)]) e.f.kids.length (fun i=>((((e.f.kids.take i).filter (dK (es.map (·.f)) fun y=>y.kind==46)).length:Int),(i:Int),())) (fun i L'=>Fact.prop (L'=[])) rfl (fun F hF=>rfl) fun i L' Δ' hi hΔ out=>?_
 refine br fun F0 hx=>?_
 obtain rfl:L'=[]:=hx
 refine aD (fun h=>?_) (fun h=>?_)
 ·have hi':i < e.f.kids.length:=by have h':(i:Int) < (e.ks.2.1:Int):=of_decide_eq_true h; omega
  obtain ⟨j,y,hj,hy,_⟩:=Fz (List.all_eq_true.1 hall _ (List.getElem_mem hi'))
  obtain ⟨y2,hy2,hyf⟩:=HZ rfl hy
  have hk46:dK (es.map (·.f)) (fun y=>y.kind==46) e.f.kids[i]=(y.kind==46):=by
   unfold dK; rw [hj,Int.toNat_natCast,hy]; simp
  have hc:=hcnt i
  have hstep:(e.f.kids.take (i+1)).filter (dK (es.map (·.f)) fun y=>y.kind==46)=(e.f.kids.take i).filter (dK (es.map (·.f)) fun y=>y.kind==46)++(if (y.kind==46)=true then [e.f.kids[i]] else []):=by
   rw [List.take_add_one,List.getElem?_eq_getElem hi',List.filter_append]
   show _++([e.f.kids[i]].filter _)=_
   rw [List.filter_cons,hk46]; rfl
  refine li i (by repeat (first | exact mz | apply ms)) rfl hi' ?_
  rw [hj]
  refine iZ (b:=b) j (by repeat (first | exact mz | apply ms)) (by repeat (first | exact mz | apply ms)) rfl hy2 ?_
  rw [hyf]
  refine aD (fun h3=>?_) (fun h3=>?_)
  ·refine out hi' ?_ fun F hF=>rfl
   show [Value.int .i64 (IntKind.i64.wrap ((((e.f.kids.take i).filter (dK (es.map (·.f)) fun y=>y.kind==46)).length:Int)+1)),Value.int .i64 (IntKind.i64.wrap ((i:Int)+1))]=[Value.int .i64 (((e.f.kids.take (i+1)).filter (dK (es.map (·.f)) fun y=>y.kind==46)).length:Int),Value.int .i64 ((i+1:Nat):Int)]
   rw [hstep,if_pos h3,aS (by omega) (by omega),aS (by omega) (by omega),List.length_append]; rfl
  ·refine out hi' ?_ fun F hF=>rfl
   show [Value.int .i64 (((e.f.kids.take i).filter (dK (es.map (·.f)) fun y=>y.kind==46)).length:Int),Value.int .i64 (IntKind.i64.wrap ((i:Int)+1))]=[Value.int .i64 (((e.f.kids.take (i+1)).filter (dK (es.map (·.f)) fun y=>y.kind==46)).length:Int),Value.int .i64 ((i+1:Nat):Int)]
   rw [hstep,if_neg (by rw [show (y.kind==46)=false from h3]; decide),aS (by omega) (by omega),List.append_nil]; rfl
 ·have hi':¬ i < e.f.kids.length:=by have h':¬ (i:Int) < (e.ks.2.1:Int):=of_decide_eq_false h; omega
  refine bI ?_
  rw [List.take_of_length_le (by omega)]
  show decide ((((e.f.kids.filter (dK (es.map (·.f)) fun y=>y.kind==46)).length:Nat):Int) < (2:Int))=decide ((e.f.kids.filter (dK (es.map (·.f)) fun y=>y.kind==46)).length < 2)
  exact decide_eq_decide.2 (by omega)
theorem GG:Meets PG (I0:av ε Unit) (aa gA #[.agg #[.slice sl.1 sl.2.1 sl.2.2],.int .i64 n]) tB (Pure.pure (eI (es.map (·.f)) .path e.f)) aJ [cI sl es]:=by
 refine AF (sl,()) n (bc fun st=>?_)
 obtain rfl:st=():=rfl
 unfold lO
 refine ee (x:=sl) fun b=>ln (List.mem_cons_self ..) (sb (by repeat (first | exact mz | apply ms)) fun hl hle=>?_)
 have hev:eI (es.map (·.f)) .path e.f=dE (es.map (·.f)) es.length e.f:=by show dE _ (es.map (·.f)).length _=_; rw [List.length_map]
 rw [hev]
 refine sU (δ:=Nat × E) (ts:=[.b (.int .i64),.b (.int .i64)]) es.length (fun i d=>((d.1:Int),(i:Int),())) (fun i d L'=>Fact.prop (L'=[]∧es[d.1]? = some d.2∧dE (es.map (·.f)) (es.length - i) d.2.f=dE (es.map (·.f)) es.length e.f)) (n,e) rfl (fun F hF=>⟨rfl,he,rfl⟩) fun i d L' Δ' hi hΔ out=>?_
 refine br fun F0 hx=>?_
 obtain ⟨rfl,hd,hp⟩:=hx
 obtain ⟨m,x⟩:=d
 simp only at hd hp
 rw [← hp]
 refine aD (fun h=>?_) (fun h=>?_)
 ·have hi':i < es.length:=by have h':(i:Int) < (sl.2.1:Int):=of_decide_eq_true h; omega
  obtain ⟨f,hf⟩:∃ f,es.length - i=f+1:=⟨es.length - i - 1,by omega⟩
  rw [hf] at hp ⊢
  refine B6 m (List.mem_cons_self ..) (by repeat (first | exact mz | apply ms)) rfl hd fun b2=>?_
  refine bK (b1:=.int .i64) x.f.kind (List.mem_cons_self ..) (by kernel_rfl) rfl ?_
  refine aD (fun h2=>?_) (fun h2=>?_)
  ·refine bK (b1:=.int .i64) x.f.kind (List.mem_cons_self ..) (by kernel_rfl) rfl ?_
   have h2':(x.f.kind==29)=false:=fQ h2
   exact bI (by rw [j5,if_neg (by rw [h2']; decide)])
  ·have h2':(x.f.kind==29)=true:=eO h2
   refine cA (A:=Rw 1 bS x.ks x.f.kids) (fun F hF=>(hF (cI sl es) (by repeat (first | exact mz | apply ms))).2.1 x (List.mem_of_getElem? hd)) ?_
   refine dd (φ:=x.ks.2.1=x.f.kids.length) (fun F hF=>(hF (Rw 1 bS x.ks x.f.kids) (List.mem_cons_self ..)).1) fun hkl=>?_
   have bad:dE (es.map (·.f)) (f+1) x.f=false→(∀ {md:cK} {Γ:List Fact},au PG (I0:av ε Unit) tB (pl aJ) Δ' md () (.ret #[.v (.bool false)]) ((Pure.pure (dE (es.map (·.f)) (f+1) x.f):Sp ε Unit Bool) ()) [] Γ):=fun hb=>bI hb.symm
   match hks:x.f.kids with
   | [k] =>
    rw [hks] at hkl
    by_cases hin:(decide (0≤k)&&decide (k < es.length))=true
    case neg =>
     have hf2:dE (es.map (·.f)) (f+1) x.f=false:=FO h2' hks fun h0=>by
      have h3:¬ k < es.length:=fun h3=>hin (by rw [decide_eq_true h0,decide_eq_true h3]; rfl)
      rw [List.length_map]; omega
     refine eo (δ:=Unit) (ts:=[.b .bool]) (fun _=>(true,())) (fun _ L'=>Fact.prop (L'=[])) (fun _ _=>(Pure.pure (dE (es.map (·.f)) (f+1) x.f):Sp ε Unit Bool) ()) ?_ ?_
     ·refine dv [] (fun _ h=>nomatch h) (hY (b1:=.slice) (b:=b2) (e:=x) x.ks (by repeat (first | exact mz | apply ms)) (by kernel_rfl) rfl ?_)
      refine aD (fun h4=>by have h4':((x.ks.2.1:Int) != 1)=true:=h4; rw [hkl] at h4'; cases h4') fun _=>?_
      refine pM (b:=b) (by repeat (first | exact mz | apply ms)) (hY (b1:=.slice) (b:=b2) (e:=x) x.ks (by repeat (first | exact mz | apply ms)) (by kernel_rfl) rfl ?_)
      refine Ba (n:=1) (f:=bS) (l:=[k]) (b1:=.int .i64) (by repeat (first | exact mz | apply ms)) (by repeat (first | exact mz | apply ms)) (by kernel_rfl) (by decide) (by kernel_rfl) 0 rfl rfl k rfl ?_
      refine nk (qN sl es k) (fun A hA=>by obtain rfl:=List.mem_singleton.1 hA; exact (by repeat (first | exact mz | apply ms))) (fun _ h=>nomatch h) ?_
      exact fy () cn (by show [Value.bool (!(decide (0≤k)&&decide (k < es.length)))]=[Value.bool true]; rw [(Bool.not_eq_true _).mp hin]; rfl) rfl fun F hF=>rfl
     ·rintro ⟨⟩ L' ⟨⟩
      refine br fun F0 hx=>?_
      obtain rfl:L'=[]:=hx
      exact aD (fun _=>bad hf2) fun h=>by cases h
    case pos =>
     rw [Bool.and_eq_true,decide_eq_true_eq,decide_eq_true_eq] at hin
     obtain ⟨j,y,hj,hy,hns⟩:=BG hin.1 hin.2
     have hpy:dE (es.map (·.f)) (f+1) x.f=dE (es.map (·.f)) f y.f:=GK h2' hks hin.1 hns
     refine eo (δ:=Unit) (ts:=[.b .bool]) (fun _=>(false,())) (fun _ L'=>Fact.prop (L'=[])) (fun _ _=>(Pure.pure (dE (es.map (·.f)) (f+1) x.f):Sp ε Unit Bool) ()) ?_ ?_
     ·refine dv [] (fun _ h=>nomatch h) (hY (b1:=.slice) (b:=b2) (e:=x) x.ks (by repeat (first | exact mz | apply ms)) (by kernel_rfl) rfl ?_)
      refine aD (fun h4=>by have h4':((x.ks.2.1:Int) != 1)=true:=h4; rw [hkl] at h4'; cases h4') fun _=>?_
      refine pM (b:=b) (by repeat (first | exact mz | apply ms)) (hY (b1:=.slice) (b:=b2) (e:=x) x.ks (by repeat (first | exact mz | apply ms)) (by kernel_rfl) rfl ?_)
      refine Ba (n:=1) (f:=bS) (l:=[k]) (b1:=.int .i64) (by repeat (first | exact mz | apply ms)) (by repeat (first | exact mz | apply ms)) (by kernel_rfl) (by decide) (by kernel_rfl) 0 rfl rfl k rfl ?_
      refine nk (qN sl es k) (fun A hA=>by obtain rfl:=List.mem_singleton.1 hA; exact (by repeat (first | exact mz | apply ms))) (fun _ h=>nomatch h) ?_
      exact fy () cn (by show [Value.bool (!(decide (0≤k)&&decide (k < es.length)))]=[Value.bool false]; rw [decide_eq_true hin.1,decide_eq_true hin.2]; rfl) rfl fun F hF=>rfl
     ·rintro ⟨⟩ L' ⟨⟩
      refine br fun F0 hx=>?_
      obtain rfl:L'=[]:=hx
      refine aD (fun h=>by cases h) fun _=>?_
      refine bK (b1:=.slice) (b:=b2) (e:=x) x.ks (by repeat (first | exact mz | apply ms)) (by kernel_rfl) rfl ?_
      refine Co (n:=1) (f:=bS) (l:=[k]) (b1:=.int .i64) (by repeat (first | exact mz | apply ms)) (by kernel_rfl) (by decide) (by kernel_rfl) 0 rfl rfl k rfl ?_
      rw [hp]
      refine out (j,y) hi' ?_ fun F hF=>⟨rfl,hy,?_⟩
      ·show [Value.int .i64 k,Value.int .i64 (IntKind.i64.wrap ((i:Int)+1))]=[Value.int .i64 (j:Int),Value.int .i64 ((i+1:Nat):Int)]
       rw [hj,aS (by omega) (by omega)]; rfl
      ·show dE (es.map (·.f)) (es.length - (i+1)) y.f=_
       rw [show es.length - (i+1)=f by omega,← hpy,hp]
   | [] =>
    rw [hks] at hkl
    refine eo (δ:=Unit) (ts:=[.b .bool]) (fun _=>(true,())) (fun _ L'=>Fact.prop (L'=[])) (fun _ _=>(Pure.pure (dE (es.map (·.f)) (f+1) x.f):Sp ε Unit Bool) ()) ?_ ?_
    ·refine dv [] (fun _ h=>nomatch h) (hY (b1:=.slice) (b:=b2) (e:=x) x.ks (by repeat (first | exact mz | apply ms)) (by kernel_rfl) rfl ?_)
     refine aD (fun _=>fy () cn rfl rfl fun F hF=>rfl) fun h4=>by have h4':((x.ks.2.1:Int) != 1)=false:=h4; rw [hkl] at h4'; cases h4'
    ·rintro ⟨⟩ L' ⟨⟩
     refine br fun F0 hx=>?_
     obtain rfl:L'=[]:=hx
     exact aD (fun _=>bad (FP h2' hks)) fun h=>by cases h
   | k::k2::ks =>
    rw [hks] at hkl
    have hne:((x.ks.2.1:Int) != 1)=true:=by rw [hkl]; simp; omega
    refine eo (δ:=Unit) (ts:=[.b .bool]) (fun _=>(true,())) (fun _ L'=>Fact.prop (L'=[])) (fun _ _=>(Pure.pure (dE (es.map (·.f)) (f+1) x.f):Sp ε Unit Bool) ()) ?_ ?_
    ·refine dv [] (fun _ h=>nomatch h) (hY (b1:=.slice) (b:=b2) (e:=x) x.ks (by repeat (first | exact mz | apply ms)) (by kernel_rfl) rfl ?_)
     refine aD (fun _=>fy () cn rfl rfl fun F hF=>rfl) fun h4=>by have h4':((x.ks.2.1:Int) != 1)=false:=h4; rw [hne] at h4'; cases h4'
    ·rintro ⟨⟩ L' ⟨⟩
     refine br fun F0 hx=>?_
     obtain rfl:L'=[]:=hx
     exact aD (fun _=>bad (Gv h2' hks)) fun h=>by cases h
 ·have hi':¬ i < es.length:=by have h':¬ (i:Int) < (sl.2.1:Int):=of_decide_eq_false h; omega
  exact bI (by rw [show es.length - i=0 by omega]; rfl)
end
theorem sQ {ε:Type} (sl:aI) (es:List E):∀ (p:Pl) (v:Value) (j:Nat) (y:E),es[j]? = some y→Meets PG (I0:av ε Unit) (aK v #[.agg #[.slice sl.1 sl.2.1 sl.2.2],.int .i64 j]) tB (Pure.pure (eI (es.map (·.f)) p y.f)) aJ [aX v p,cI sl es]
 | .of ks,v,j,y,hy=>sP sl es j y hy v ks
 | .rows q,v,j,y,hy=>y5 sl es j y hy v q fun u j y hy=>sQ sl es q u j y hy
 | .or p q,v,j,y,hy=>by
  intro r w F H st res hs hΓ hi hsp
  obtain ⟨b,c,u,u',rfl,h1,h2,h3,h4⟩:=(show PlaceP F (.or p q) v from hΓ _ (List.mem_cons_self ..))
  rw [Hw]
  exact KH sl es j y p q (es.map (fun x:E=>x.f)) b c u u' (sQ sl es p u j y hy) (sQ sl es q u' j y hy) r w F H st res hs (Holds.cons h1 (Holds.cons h2 (Holds.cons h3 (Holds.cons h4 (Holds.cons (hΓ (cI sl es) (by repeat (first | exact mz | apply ms))) fun _ h=>nomatch h))))) hi hsp
 | .any,v,j,y,hy=>leaf (fun F h=>h) (by exact fun r w F H st res hs _ hi hsp=>JX sl j r w F H st res hs (fun _ h=>nomatch h) hi hsp)
 | .expr,v,j,y,hy=>leaf (fun F h=>h) (CU sl es j y hy)
 | .type,v,j,y,hy=>leaf (fun F h=>h) (BZ sl es j y hy)
 | .stmt,v,j,y,hy=>leaf (fun F h=>h) (G4 sl es j y hy)
 | .plain,v,j,y,hy=>leaf (fun F h=>h) (Gp sl es j y hy)
 | .spot,v,j,y,hy=>leaf (fun F h=>h) (Ht sl es j y hy)
 | .path,v,j,y,hy=>leaf (fun F h=>h) (GG sl es j y hy)
 | .members,v,j,y,hy=>leaf (fun F h=>h) (DA sl es j y hy)
 | .exported,v,j,y,hy=>leaf (fun F h=>h) (Cn sl es j y hy)
 | .isLet,v,j,y,hy=>leaf (fun F h=>h) (It sl es j y hy)
where
 leaf {ε:Type} {sl:aI} {es:List E} {p:Pl} {v:Value} {f:FuncId} {j:Nat} {x:Bool} (hv:∀ F,PlaceP F p v→v=aT f #[]) (h:Meets PG (I0:av ε Unit) (aa f #[.agg #[.slice sl.1 sl.2.1 sl.2.2],.int .i64 j]) tB (Pure.pure x) aJ [cI sl es]) :
   Meets PG (I0:av ε Unit) (aK v #[.agg #[.slice sl.1 sl.2.1 sl.2.2],.int .i64 j]) tB (Pure.pure x) aJ [aX v p,cI sl es]:=by
  intro r w F H st res hs hΓ hi hsp
  obtain rfl:=hv F (hΓ (aX v p) (List.mem_cons_self ..))
  rw [GH]
  exact h r w F H st res hs (fun A hA=>hΓ A (List.mem_cons_of_mem _ hA)) hi hsp
end Go.Proofs.YtjlgcpgjdgeejaaGreatDoor
end

section
namespace Go.Proofs.YtjlgcpgjdgeejaaGreatDoor
open Go
set_option linter.unusedSimpArgs false
set_option linter.unusedVariables false
set_option linter.constructorNameAsVariable false
set_option maxRecDepth 100000
abbrev tP3:Ty:=.tup [.b .slice,.b .bool,.b .bool]
def gg (x:aI) (ps:List Pl):Fact:=⟨fun F=>∃ vs:List Value,(Rw 1 (fun v=>[v]) x vs).p F∧vs.length=ps.length∧∀ (i:Nat) (v:Value) (p:Pl),vs[i]? = some v→ps[i]? = some p→PlaceP F p v,
 fun F F' hl ⟨vs,h1,h2,h3⟩=>⟨vs,(Rw 1 (fun v=>[v]) x vs).mono F F' hl h1,h2,fun i v p a b=>(h3 i v p a b).mono hl⟩⟩
def mR (b:List Pl × Bool × Bool) (d:tP3.den):Fact:=(gg d.1 b.1).both (Fact.prop (d.2.1=b.2.1∧d.2.2.1=b.2.2))
theorem yR (f:FuncId) (a:Value) (w:World):(aK (aT f #[]) #[a]).run PG w=(aa f #[a]).run PG w:=by unfold aT; rw [eS]; rfl
theorem Gb {F:Heap} {v:Value} {p:Pl} (h':PlaceP F p v):∃ f c,v=aT f c:=by
 cases p with
 | of ks=>obtain ⟨b,x,rfl,_⟩:=h'; exact ⟨_,_,rfl⟩
 | rows q=>obtain ⟨b,u,rfl,_⟩:=h'; exact ⟨_,_,rfl⟩
 | or p q=>obtain ⟨b,c,u,u',rfl,_⟩:=h'; exact ⟨_,_,rfl⟩
 | any=>obtain rfl:v=_:=h'; exact ⟨_,_,rfl⟩
 | expr=>obtain rfl:v=_:=h'; exact ⟨_,_,rfl⟩
 | type=>obtain rfl:v=_:=h'; exact ⟨_,_,rfl⟩
 | stmt=>obtain rfl:v=_:=h'; exact ⟨_,_,rfl⟩
 | plain=>obtain rfl:v=_:=h'; exact ⟨_,_,rfl⟩
 | spot=>obtain rfl:v=_:=h'; exact ⟨_,_,rfl⟩
 | path=>obtain rfl:v=_:=h'; exact ⟨_,_,rfl⟩
 | members=>obtain rfl:v=_:=h'; exact ⟨_,_,rfl⟩
 | exported=>obtain rfl:v=_:=h'; exact ⟨_,_,rfl⟩
 | isLet=>obtain rfl:v=_:=h'; exact ⟨_,_,rfl⟩
inductive PlAll (Γ:List Fact):List Value→List Pl→Prop
 | nil:PlAll Γ [] []
 | cons {v:Value} {p:Pl} {vs:List Value} {ps:List Pl} (h:aX v p∈Γ) (t:PlAll Γ vs ps):PlAll Γ (v::vs) (p::ps)
theorem PlAll.row {Γ:List Fact} {vs:List Value} {ps:List Pl} (h:PlAll Γ vs ps) {F:Heap} (hF:Holds Γ F):vs.length=ps.length∧∀ (i:Nat) (v:Value) (p:Pl),vs[i]? = some v→ps[i]? = some p→PlaceP F p v:=by
 induction h with
 | nil=>exact ⟨rfl,fun i v p h=>by simp at h⟩
 | cons h _ ih =>
  refine ⟨by simp [ih.1],fun i v p h1 h2=>?_⟩
  cases i with
  | zero=>simp at h1 h2; subst h1; subst h2; exact hF _ h
  | succ i=>simp at h1 h2; exact ih.2 i v p h1 h2
theorem Jg (a:Int):Instr.fill (fun i=>some (i * 1,1)) ((Array.range (1 * 1)).map ((Value.int .i64 0).cells[· % (Value.int .i64 0).cells.size]!)) (#[(0,.int .i64 a)]:Array (Nat × Value)).toList=some (rows bS [a]).toArray :=
 congrFun (show (fun (a:Int)=>Instr.fill (fun i=>some (i * 1,1)) ((Array.range (1 * 1)).map ((Value.int .i64 0).cells[· % (Value.int .i64 0).cells.size]!)) (#[(0,.int .i64 a)]:Array (Nat × Value)).toList)=(fun (a:Int)=>some (rows bS [a]).toArray) from by kernel_rfl) a
theorem Jp (a b:Int):Instr.fill (fun i=>some (i * 1,1)) ((Array.range (2 * 1)).map ((Value.int .i64 0).cells[· % (Value.int .i64 0).cells.size]!)) (#[(0,.int .i64 a),(1,.int .i64 b)]:Array (Nat × Value)).toList=some (rows bS [a,b]).toArray :=
 congrFun (congrFun (show (fun (a b:Int)=>Instr.fill (fun i=>some (i * 1,1)) ((Array.range (2 * 1)).map ((Value.int .i64 0).cells[· % (Value.int .i64 0).cells.size]!)) (#[(0,.int .i64 a),(1,.int .i64 b)]:Array (Nat × Value)).toList)=(fun (a b:Int)=>some (rows bS [a,b]).toArray) from by kernel_rfl) a) b
theorem JE (f1:FuncId) (c1:Array Value):Instr.fill (fun i=>some (i * 1,1)) ((Array.range (1 * 1)).map ((Value.nilFunc).cells[· % (Value.nilFunc).cells.size]!)) (#[(0,aT f1 c1)]:Array (Nat × Value)).toList=some (rows (fun v=>[v]) [aT f1 c1]).toArray :=
 (congrFun (congrFun (show (fun (f1:FuncId) (c1:Array Value)=>Instr.fill (fun i=>some (i * 1,1)) ((Array.range (1 * 1)).map ((Value.nilFunc).cells[· % (Value.nilFunc).cells.size]!)) (#[(0,aT f1 c1)]:Array (Nat × Value)).toList)=(fun (f1:FuncId) (c1:Array Value)=>some (rows (fun v=>[v]) [aT f1 c1]).toArray) from by kernel_rfl) f1) c1)
theorem JM (f1:FuncId) (c1:Array Value) (f2:FuncId) (c2:Array Value):Instr.fill (fun i=>some (i * 1,1)) ((Array.range (2 * 1)).map ((Value.nilFunc).cells[· % (Value.nilFunc).cells.size]!)) (#[(0,aT f1 c1),(1,aT f2 c2)]:Array (Nat × Value)).toList=some (rows (fun v=>[v]) [aT f1 c1,aT f2 c2]).toArray :=
 (congrFun (congrFun (congrFun (congrFun (show (fun (f1:FuncId) (c1:Array Value) (f2:FuncId) (c2:Array Value)=>Instr.fill (fun i=>some (i * 1,1)) ((Array.range (2 * 1)).map ((Value.nilFunc).cells[· % (Value.nilFunc).cells.size]!)) (#[(0,aT f1 c1),(1,aT f2 c2)]:Array (Nat × Value)).toList)=(fun (f1:FuncId) (c1:Array Value) (f2:FuncId) (c2:Array Value)=>some (rows (fun v=>[v]) [aT f1 c1,aT f2 c2]).toArray) from by kernel_rfl) f1) c1) f2) c2)
theorem JG (f1:FuncId) (c1:Array Value) (f2:FuncId) (c2:Array Value) (f3:FuncId) (c3:Array Value):Instr.fill (fun i=>some (i * 1,1)) ((Array.range (3 * 1)).map ((Value.nilFunc).cells[· % (Value.nilFunc).cells.size]!)) (#[(0,aT f1 c1),(1,aT f2 c2),(2,aT f3 c3)]:Array (Nat × Value)).toList=some (rows (fun v=>[v]) [aT f1 c1,aT f2 c2,aT f3 c3]).toArray :=
 (congrFun (congrFun (congrFun (congrFun (congrFun (congrFun (show (fun (f1:FuncId) (c1:Array Value) (f2:FuncId) (c2:Array Value) (f3:FuncId) (c3:Array Value)=>Instr.fill (fun i=>some (i * 1,1)) ((Array.range (3 * 1)).map ((Value.nilFunc).cells[· % (Value.nilFunc).cells.size]!)) (#[(0,aT f1 c1),(1,aT f2 c2),(2,aT f3 c3)]:Array (Nat × Value)).toList)=(fun (f1:FuncId) (c1:Array Value) (f2:FuncId) (c2:Array Value) (f3:FuncId) (c3:Array Value)=>some (rows (fun v=>[v]) [aT f1 c1,aT f2 c2,aT f3 c3]).toArray) from by kernel_rfl) f1) c1) f2) c2) f3) c3)
theorem Jt (f1:FuncId) (c1:Array Value) (f2:FuncId) (c2:Array Value) (f3:FuncId) (c3:Array Value) (f4:FuncId) (c4:Array Value):Instr.fill (fun i=>some (i * 1,1)) ((Array.range (4 * 1)).map ((Value.nilFunc).cells[· % (Value.nilFunc).cells.size]!)) (#[(0,aT f1 c1),(1,aT f2 c2),(2,aT f3 c3),(3,aT f4 c4)]:Array (Nat × Value)).toList=some (rows (fun v=>[v]) [aT f1 c1,aT f2 c2,aT f3 c3,aT f4 c4]).toArray :=
 (congrFun (congrFun (congrFun (congrFun (congrFun (congrFun (congrFun (congrFun (show (fun (f1:FuncId) (c1:Array Value) (f2:FuncId) (c2:Array Value) (f3:FuncId) (c3:Array Value) (f4:FuncId) (c4:Array Value)=>Instr.fill (fun i=>some (i * 1,1)) ((Array.range (4 * 1)).map ((Value.nilFunc).cells[· % (Value.nilFunc).cells.size]!)) (#[(0,aT f1 c1),(1,aT f2 c2),(2,aT f3 c3),(3,aT f4 c4)]:Array (Nat × Value)).toList)=(fun (f1:FuncId) (c1:Array Value) (f2:FuncId) (c2:Array Value) (f3:FuncId) (c3:Array Value) (f4:FuncId) (c4:Array Value)=>some (rows (fun v=>[v]) [aT f1 c1,aT f2 c2,aT f3 c3,aT f4 c4]).toArray) from by kernel_rfl) f1) c1) f2) c2) f3) c3) f4) c4)
section
variable {ε β:Type} {t:Ty} {Rel:β→t.den→al→Fact} {Δ:Labels ε Unit β} {md:cK} {Γ:List Fact} {st:Unit} {run:Option (Res ε Unit β)}
theorem zd {m:T} (h:au PG (I0:av ε Unit) t Rel Δ none st m run [] (aX (aT jV #[]) .any::aX (aT ez #[]) .expr::aX (aT fs #[]) .type::aX (aT gD #[]) .stmt::aX (aT fV #[]) .plain::aX (aT gv #[]) .spot::aX (aT gA #[]) .path::aX (aT fj #[]) .members::aX (aT eJ #[]) .exported::aX (aT gZ #[]) .isLet::Γ)):au PG (I0:av ε Unit) t Rel Δ md st m run [] Γ:=by
 refine cA (A:=aX (aT gZ #[]) .isLet) (fun F _=>rfl) ?_
 refine cA (A:=aX (aT eJ #[]) .exported) (fun F _=>rfl) ?_
 refine cA (A:=aX (aT fj #[]) .members) (fun F _=>rfl) ?_
 refine cA (A:=aX (aT gA #[]) .path) (fun F _=>rfl) ?_
 refine cA (A:=aX (aT gv #[]) .spot) (fun F _=>rfl) ?_
 refine cA (A:=aX (aT fV #[]) .plain) (fun F _=>rfl) ?_
 refine cA (A:=aX (aT gD #[]) .stmt) (fun F _=>rfl) ?_
 refine cA (A:=aX (aT fs #[]) .type) (fun F _=>rfl) ?_
 refine cA (A:=aX (aT ez #[]) .expr) (fun F _=>rfl) ?_
 exact cA (A:=aX (aT jV #[]) .any) (fun F _=>rfl) h
theorem BJ {K:al} {k:Value→T} {p:Pl} {v:Value} (hk:∀ f c,au PG (I0:av ε Unit) t Rel Δ none st (k (aT f c)) run [] (aX (aT f c) p::Γ)):au PG (I0:av ε Unit) t Rel Δ none st (k v) run (K++[]) (pl (fun (p:Pl) v=>aX v p) p v K::Γ):=by
 refine n7 fun hK=>?_
 subst hK
 refine dd (φ:=∃ f c,v=aT f c) (fun F hF=>Gb (hF (aX v p) (List.mem_cons_self ..))) fun ⟨f,c,h⟩=>?_
 subst h
 exact hk f c
theorem JC {n:Nat} {ps:Array (Nat × Value)} {k:aI→T} (ks:List Int) (h1:n≤10000) (hn:0 < n) (hf:Instr.fill (fun i=>some (i * 1,1)) ((Array.range (n * 1)).map ((Value.int .i64 0).cells[· % (Value.int .i64 0).cells.size]!)) ps.toList=some (rows bS ks).toArray) (hl:ks.length=n)
  (hk:∀ x,au PG (I0:av ε Unit) t Rel Δ none st (k x) run [] (Rw 1 bS x ks::Γ)):au PG (I0:av ε Unit) t Rel Δ md st (.op (ar aM n ps) ah k) run [] Γ:=by
 refine bY (qM ks h1 hn hf hl) ?_
 rintro x _ _ ⟨rfl,rfl⟩
 exact hk x
theorem HP {n:Nat} {ps:Array (Nat × Value)} {k:Value→T} (ks:List Int) (h1:n≤10000) (hn:0 < n) (hf:Instr.fill (fun i=>some (i * 1,1)) ((Array.range (n * 1)).map ((Value.int .i64 0).cells[· % (Value.int .i64 0).cells.size]!)) ps.toList=some (rows bS ks).toArray) (hl:ks.length=n)
  (hk:∀ f c,au PG (I0:av ε Unit) t Rel Δ none st (k (aT f c)) run [] (aX (aT f c) (.of ks)::Γ)):au PG (I0:av ε Unit) t Rel Δ md st (.op (ar aM n ps) ah fun r=>.op (aa ca #[.slice r.1 r.2.1 r.2.2]) tV k) run [] Γ:=by
 refine JC ks h1 hn hf hl fun x=>?_
 refine i1 (Bc x ks (by omega)) (fun A hA=>by obtain rfl:=List.mem_singleton.1 hA; exact List.mem_cons_self ..) fun v K=>?_
 exact BJ fun f c=>D6 (hk f c) fun A hA=>by
  rcases List.mem_cons.1 hA with rfl | hA
  ·exact List.mem_cons_self ..
  ·exact List.mem_cons_of_mem _ (List.mem_cons_of_mem _ hA)
theorem ek {a:Int} {k:Value→T} (hk:∀ f c,au PG (I0:av ε Unit) t Rel Δ none st (k (aT f c)) run [] (aX (aT f c) (.of [a])::Γ)):au PG (I0:av ε Unit) t Rel Δ md st (.op (ar aM 1 #[(0,.int .i64 a)]) ah fun r=>.op (aa ca #[.slice r.1 r.2.1 r.2.2]) tV k) run [] Γ :=
 HP [a] (by decide) (by decide) (Jg a) rfl hk
theorem Jk {a b:Int} {k:Value→T} (hk:∀ f c,au PG (I0:av ε Unit) t Rel Δ none st (k (aT f c)) run [] (aX (aT f c) (.of [a,b])::Γ)):au PG (I0:av ε Unit) t Rel Δ md st (.op (ar aM 2 #[(0,.int .i64 a),(1,.int .i64 b)]) ah fun r=>.op (aa ca #[.slice r.1 r.2.1 r.2.2]) tV k) run [] Γ :=
 HP [a,b] (by decide) (by decide) (Jp a b) rfl hk
theorem gL {v:Value} {q:Pl} {k:Value→T} (hm:aX v q∈Γ) (hk:∀ f c,au PG (I0:av ε Unit) t Rel Δ none st (k (aT f c)) run [] (aX (aT f c) (.rows q)::Γ)):au PG (I0:av ε Unit) t Rel Δ md st (.op (aa cU #[v]) tV k) run [] Γ :=
 i1 (DQ v q) (fun A hA=>by obtain rfl:=List.mem_singleton.1 hA; exact hm) fun v K=>BJ hk
theorem kh {v u:Value} {p q:Pl} {k:Value→T} (hm:aX v p∈Γ) (hm2:aX u q∈Γ) (hk:∀ f c,au PG (I0:av ε Unit) t Rel Δ none st (k (aT f c)) run [] (aX (aT f c) (.or p q)::Γ)):au PG (I0:av ε Unit) t Rel Δ md st (.op (aa dz #[v,u]) tV k) run [] Γ :=
 i1 (KO v u p q) (fun A hA=>by
  rcases List.mem_cons.1 hA with rfl | hA
  ·exact hm
  ·obtain rfl:=List.mem_singleton.1 hA; exact hm2) fun v K=>BJ hk
theorem we {n:Nat} {a:Array (Nat × Value)} {k:aI→T} (vs:List Value) {ps:List Pl} (hp:PlAll Γ vs ps) (h1:n≤10000) (hn:0 < n)
  (hf:Instr.fill (fun i=>some (i * 1,1)) ((Array.range (n * 1)).map ((Value.nilFunc).cells[· % (Value.nilFunc).cells.size]!)) a.toList=some (rows (fun v=>[v]) vs).toArray) (hl:vs.length=n)
  (hk:∀ x,au PG (I0:av ε Unit) t Rel Δ none st (k x) run [] (gg x ps::Γ)):au PG (I0:av ε Unit) t Rel Δ md st (.op (ar aU n a) ah k) run [] Γ:=by
 refine bY (Cm (f:=fun v=>[v]) vs (e:=cu) (size:=1) (z:=Value.nilFunc) (t:=aU) (n:=n) (ps:=a) (by kernel_rfl) (by kernel_rfl) (by decide) (by omega) hn hf hl fun _=>rfl) ?_
 rintro x _ _ ⟨_,rfl,rfl⟩
 refine cA (A:=gg x ps) (fun F hF=>⟨vs,Sl.rw (n:=1) (f:=fun v=>[v]) (fun _=>rfl) (hF (Sl 1 (fun v=>[v]) x vs) (List.mem_cons_self ..)),hp.row fun A hA=>hF A (List.mem_cons_of_mem _ hA)⟩) ?_
 exact D6 (hk x) fun A hA=>by
  rcases List.mem_cons.1 hA with rfl | hA
  ·exact List.mem_cons_self ..
  ·exact List.mem_cons_of_mem _ (List.mem_cons_of_mem _ hA)
theorem iB {f1:FuncId} {c1:Array Value} {p1:Pl} {k:aI→T} (h1:aX (aT f1 c1) p1∈Γ) (hk:∀ x,au PG (I0:av ε Unit) t Rel Δ none st (k x) run [] (gg x [p1]::Γ)) :
  au PG (I0:av ε Unit) t Rel Δ md st (.op (ar aU 1 #[(0,aT f1 c1)]) ah k) run [] Γ:=we [aT f1 c1] (.cons h1 .nil) (by decide) (by decide) (JE f1 c1) rfl hk
theorem iJ {f1 f2:FuncId} {c1 c2:Array Value} {p1 p2:Pl} {k:aI→T} (h1:aX (aT f1 c1) p1∈Γ) (h2:aX (aT f2 c2) p2∈Γ) (hk:∀ x,au PG (I0:av ε Unit) t Rel Δ none st (k x) run [] (gg x [p1,p2]::Γ)) :
  au PG (I0:av ε Unit) t Rel Δ md st (.op (ar aU 2 #[(0,aT f1 c1),(1,aT f2 c2)]) ah k) run [] Γ:=we [aT f1 c1,aT f2 c2] (.cons h1 (.cons h2 .nil)) (by decide) (by decide) (JM f1 c1 f2 c2) rfl hk
theorem kR {f1 f2 f3:FuncId} {c1 c2 c3:Array Value} {p1 p2 p3:Pl} {k:aI→T} (h1:aX (aT f1 c1) p1∈Γ) (h2:aX (aT f2 c2) p2∈Γ) (h3:aX (aT f3 c3) p3∈Γ) (hk:∀ x,au PG (I0:av ε Unit) t Rel Δ none st (k x) run [] (gg x [p1,p2,p3]::Γ)) :
  au PG (I0:av ε Unit) t Rel Δ md st (.op (ar aU 3 #[(0,aT f1 c1),(1,aT f2 c2),(2,aT f3 c3)]) ah k) run [] Γ:=we [aT f1 c1,aT f2 c2,aT f3 c3] (.cons h1 (.cons h2 (.cons h3 .nil))) (by decide) (by decide) (JG f1 c1 f2 c2 f3 c3) rfl hk
theorem xq {f1 f2 f3 f4:FuncId} {c1 c2 c3 c4:Array Value} {p1 p2 p3 p4:Pl} {k:aI→T} (h1:aX (aT f1 c1) p1∈Γ) (h2:aX (aT f2 c2) p2∈Γ) (h3:aX (aT f3 c3) p3∈Γ) (h4:aX (aT f4 c4) p4∈Γ) (hk:∀ x,au PG (I0:av ε Unit) t Rel Δ none st (k x) run [] (gg x [p1,p2,p3,p4]::Γ)) :
  au PG (I0:av ε Unit) t Rel Δ md st (.op (ar aU 4 #[(0,aT f1 c1),(1,aT f2 c2),(2,aT f3 c3),(3,aT f4 c4)]) ah k) run [] Γ:=we [aT f1 c1,aT f2 c2,aT f3 c3,aT f4 c4] (.cons h1 (.cons h2 (.cons h3 (.cons h4 .nil)))) (by decide) (by decide) (Jt f1 c1 f2 c2 f3 c3 f4 c4) rfl hk
theorem c9 {l:Nat} {L:al} {m:T} {k:HC [.b .bool]→T} (c:Bool) (hm:au PG (I0:av ε Unit) t Rel (Δ.set l (u7 [.b .bool] (fun _:Unit=>(c,())) (fun _ L'=>Fact.prop (L'=L)) (fun _ _=>run))) md st m run L Γ) (hk:au PG (I0:av ε Unit) t Rel Δ none st (k (c,())) run L Γ) :
  au PG (I0:av ε Unit) t Rel Δ md st (.join l [.b .bool] m k) run L Γ:=by
 refine eo (δ:=Unit) (fun _=>(c,())) (fun _ L'=>Fact.prop (L'=L)) (fun _ _=>run) hm ?_
 rintro ⟨⟩ L' ⟨⟩
 refine br fun F0 hx=>?_
 obtain rfl:L'=L:=hx
 exact hk
theorem cT {l:Nat} {L:al} {v c:Bool} (h:v=c):au PG (I0:av ε Unit) t Rel (Δ.set l (u7 [.b .bool] (fun _:Unit=>(c,())) (fun _ L'=>Fact.prop (L'=L)) (fun _ _=>run))) md st (.out l [.bool v]) run L Γ :=
 fy () cn (by subst h; rfl) rfl fun F hF=>rfl
end
theorem JZ {ε:Type} (x:aI) (ps:List Pl):Meets PG (I0:av ε Unit) (aK (aT em #[]) #[.slice x.1 x.2.1 x.2.2]) tP3 (Pure.pure (ps,false,true)) mR [gg x ps]:=by
 intro r w F H st res hs hΓ hi hsp
 rw [yR]
 refine (wc x (bc fun st=>?_):MeetsO PG (I0:av ε Unit) _ tP3 (Pure.pure (ps,false,true)) (pl mR) [gg x ps]) r w F H st res hs hΓ hi hsp
 unfold jM
 exact cY (t:=tP3) (ps,false,true) (x,false,true,()) rfl (fun r w F H _ _=>by rw [hO]; rfl) fun F hF=>⟨hF _ (List.mem_cons_self ..),rfl,rfl⟩
theorem JD {ε:Type} (f:FuncId) (c:Array Value) (p:Pl):Meets PG (I0:av ε Unit) (aK (aT fD #[]) #[aT f c]) tP3 (Pure.pure ([p],true,true)) mR [aX (aT f c) p]:=by
 intro r w F H st res hs hΓ hi hsp
 rw [yR]
 refine (vD (aT f c) (bc fun st=>?_):MeetsO PG (I0:av ε Unit) _ tP3 (Pure.pure ([p],true,true)) (pl mR) [aX (aT f c) p]) r w F H st res hs hΓ hi hsp
 unfold jJ
 refine iB (List.mem_cons_self ..) fun x=>?_
 exact cY (t:=tP3) ([p],true,true) (x,true,true,()) rfl (fun r w F H _ _=>by rw [hO]; rfl) fun F hF=>⟨hF _ (List.mem_cons_self ..),rfl,rfl⟩
section
variable {ε:Type} {Δ:Labels ε Unit (List Pl × Bool × Bool)} {md:cK} {Γ:List Fact} {st:Unit} {sv:List Pl × Bool × Bool}
theorem BU {s0:Sem Next} {Γ1:List Fact} (hm:Meets PG (I0:av ε Unit) s0 tP3 (Pure.pure sv) mR Γ1) (h1:∀ A∈Γ1,A∈Γ) :
  au PG (I0:av ε Unit) tP3 (pl mR) Δ md st (.op s0 tP3 fun r=>.ret #[.v (.slice r.1.1 r.1.2.1 r.1.2.2),.v (.bool r.2.1),.v (.bool r.2.2.1)]) ((Pure.pure sv:Sp ε Unit _) st) [] Γ:=by
 refine i1 hm h1 fun x K=>?_
 refine n7 fun hK=>?_
 subst hK
 exact cY (t:=tP3) sv x rfl (fun r w F H _ _=>by rw [hO]; rfl) fun F hF=>hF (mR sv x) (List.mem_cons_self ..)
theorem df {x:aI} {ps:List Pl} (hm:gg x ps∈Γ) (h:sv=(ps,false,true)) :
  au PG (I0:av ε Unit) tP3 (pl mR) Δ md st (.op (aK (aT em #[]) #[.slice x.1 x.2.1 x.2.2]) tP3 fun r=>.ret #[.v (.slice r.1.1 r.1.2.1 r.1.2.2),.v (.bool r.2.1),.v (.bool r.2.2.1)]) ((Pure.pure sv:Sp ε Unit _) st) [] Γ:=by
 subst h
 exact BU (JZ x ps) fun A hA=>by obtain rfl:=List.mem_singleton.1 hA; exact hm
theorem Jh (h:sv=([],false,true)) :
  au PG (I0:av ε Unit) tP3 (pl mR) Δ md st (.op (aK (aT em #[]) #[.slice none 0 0]) tP3 fun r=>.ret #[.v (.slice r.1.1 r.1.2.1 r.1.2.2),.v (.bool r.2.1),.v (.bool r.2.2.1)]) ((Pure.pure sv:Sp ε Unit _) st) [] Γ :=
 cA (A:=gg (none,0,0) []) (fun F _=>⟨[],⟨rfl,.inl rfl⟩,rfl,fun i v p h=>by simp at h⟩) (df (x:=(none,0,0)) (List.mem_cons_self ..) h)
theorem kC {f:FuncId} {c:Array Value} {p:Pl} (hm:aX (aT f c) p∈Γ) (h:sv=([p],true,true)) :
  au PG (I0:av ε Unit) tP3 (pl mR) Δ md st (.op (aK (aT fD #[]) #[aT f c]) tP3 fun r=>.ret #[.v (.slice r.1.1 r.1.2.1 r.1.2.2),.v (.bool r.2.1),.v (.bool r.2.2.1)]) ((Pure.pure sv:Sp ε Unit _) st) [] Γ:=by
 subst h
 exact BU (JD f c p) fun A hA=>by obtain rfl:=List.mem_singleton.1 hA; exact hm
theorem IV (h:sv=([],false,false)):au PG (I0:av ε Unit) tP3 (pl mR) Δ md st (.ret #[.v (.slice none 0 0),.v (.bool false),.v (.bool false)]) ((Pure.pure sv:Sp ε Unit _) st) [] Γ:=by
 subst h
 exact cY (t:=tP3) ([],false,false) ((none,0,0),false,false,()) rfl (fun r w F H _ _=>by rw [hO]; rfl) fun F hF=>⟨⟨[],⟨rfl,.inl rfl⟩,rfl,fun i v p h=>by simp at h⟩,rfl,rfl⟩
end
section
variable {ε β:Type} {t:Ty} {Rel:β→t.den→al→Fact} {Δ:Labels ε Unit β} {md:cK} {Γ:List Fact} {st:Unit} {L:al}
theorem bm {b:Bool} {A B:β} {x y:T} (h1:au PG (I0:av ε Unit) t Rel Δ md st x ((Pure.pure A:Sp ε Unit β) st) L Γ) (h2:au PG (I0:av ε Unit) t Rel Δ md st y ((Pure.pure B:Sp ε Unit β) st) L Γ) :
  au PG (I0:av ε Unit) t Rel Δ md st (.ite b x y) ((Pure.pure (cond b A B):Sp ε Unit β) st) L Γ:=by
 refine aD (fun h=>?_) (fun h=>?_)
 ·subst h; exact h1
 ·subst h; exact h2
theorem bO {run:Option (Res ε Unit β)} {l:Nat} {b c c':Bool} {y:T} (h:c=(b||c')) (hy:c=c'→au PG (I0:av ε Unit) t Rel (Δ.set l (u7 [.b .bool] (fun _:Unit=>(c,())) (fun _ L'=>Fact.prop (L'=L)) (fun _ _=>run))) md st y run L Γ) :
  au PG (I0:av ε Unit) t Rel (Δ.set l (u7 [.b .bool] (fun _:Unit=>(c,())) (fun _ L'=>Fact.prop (L'=L)) (fun _ _=>run))) md st (.ite b (.out l [.bool true]) y) run L Γ:=by
 refine aD (fun hb=>cT ?_) (fun hb=>hy ?_)
 ·rw [h,hb]; rfl
 ·rw [h,hb]; rfl
end
end Go.Proofs.YtjlgcpgjdgeejaaGreatDoor
end

section
namespace Go.Proofs.YtjlgcpgjdgeejaaGreatDoor
open Go
set_option linter.unusedVariables false
set_option linter.constructorNameAsVariable false
set_option maxRecDepth 100000
def qQ (k:Int):List Pl × Bool × Bool :=
 bif ((k:Int)==47) then ([.of [48]],true,true)
 else bif (((k:Int)==48)||((k:Int)==57)) then ([.or (.expr) (.of [1])],false,true)
 else bif ((k:Int)==49) then ([.or (.stmt) (.of [50])],true,true)
 else bif ((k:Int)==50) then ([.exported],false,true)
 else bif ((k:Int)==51) then ([.rows (.of [67]),.rows (.of [80]),.of [84]],false,true)
 else bif ((k:Int)==52) then ([.rows (.of [67]),.type],false,true)
 else bif ((k:Int)==53) then ([.expr,.of [63],.or (.of [63,53]) (.of [1])],false,true)
 else bif (((k:Int)==54)||((k:Int)==56)) then ([.expr,.of [63]],false,true)
 else bif ((k:Int)==55) then ([.or (.isLet) (.of [1]),.or (.expr) (.of [1]),.or (.expr) (.of [1]),.of [63]],false,true)
 else bif ((k:Int)==61) then ([.of [63],.or (.of [62]) (.of [1]),.or (.of [63]) (.of [1])],false,true)
 else bif ((k:Int)==62) then ([.of [63]],false,true)
 else bif ((k:Int)==66) then ([.or (.type) (.of [1])],false,true)
 else bif (((k:Int)==83)||((k:Int)==85)) then ([.type],false,true)
 else bif ((k:Int)==84) then ([.of [85]],true,true)
 else bif ((k:Int)==86) then ([.rows (.plain),.type],false,true)
 else ([],false,false)
set_option maxHeartbeats 4000000 in
theorem JA {ε:Type} (k:Int):Meets PG (I0:av ε Unit) (aa oV #[.int .i64 k,aT em #[],aT fD #[]]) tP3 (Pure.pure (qQ k)) mR []:=by
 refine C2 k (aT em #[]) (aT fD #[]) (bc fun st=>?_)
 obtain rfl:st=():=rfl
 unfold oy qQ
 refine zd ?_
 refine ek fun fr2 cr2=>?_
 refine ek fun fr4 cr4=>?_
 refine kh (p:=.expr) (q:=.of [1]) (by repeat (first | exact mz | apply ms)) (by repeat (first | exact mz | apply ms)) fun fr5 cr5=>?_
 refine bm ?_ ?_
 ·refine ek fun fr7 cr7=>?_
  exact kC (p:=.of [48]) (by repeat (first | exact mz | apply ms)) rfl
 refine c9 (((k:Int)==48)||((k:Int)==57)) (bO rfl fun e=>cT e.symm) ?_
 refine bm ?_ ?_
 ·refine iB (p1:=.or (.expr) (.of [1])) (by repeat (first | exact mz | apply ms)) fun xr10=>?_
  exact df (by repeat (first | exact mz | apply ms)) rfl
 refine bm ?_ ?_
 ·refine ek fun fr13 cr13=>?_
  refine kh (p:=.stmt) (q:=.of [50]) (by repeat (first | exact mz | apply ms)) (by repeat (first | exact mz | apply ms)) fun fr14 cr14=>?_
  exact kC (p:=.or (.stmt) (.of [50])) (by repeat (first | exact mz | apply ms)) rfl
 refine bm ?_ ?_
 ·refine iB (p1:=.exported) (by repeat (first | exact mz | apply ms)) fun xr16=>?_
  exact df (by repeat (first | exact mz | apply ms)) rfl
 refine bm ?_ ?_
 ·refine ek fun fr19 cr19=>?_
  refine gL (q:=.of [67]) (by repeat (first | exact mz | apply ms)) fun fr20 cr20=>?_
  refine ek fun fr22 cr22=>?_
  refine gL (q:=.of [80]) (by repeat (first | exact mz | apply ms)) fun fr23 cr23=>?_
  refine ek fun fr25 cr25=>?_
  refine kR (p1:=.rows (.of [67])) (p2:=.rows (.of [80])) (p3:=.of [84]) (by repeat (first | exact mz | apply ms)) (by repeat (first | exact mz | apply ms)) (by repeat (first | exact mz | apply ms)) fun xr26=>?_
  exact df (by repeat (first | exact mz | apply ms)) rfl
 refine bm ?_ ?_
 ·refine ek fun fr29 cr29=>?_
  refine gL (q:=.of [67]) (by repeat (first | exact mz | apply ms)) fun fr30 cr30=>?_
  refine iJ (p1:=.rows (.of [67])) (p2:=.type) (by repeat (first | exact mz | apply ms)) (by repeat (first | exact mz | apply ms)) fun xr31=>?_
  exact df (by repeat (first | exact mz | apply ms)) rfl
 refine bm ?_ ?_
 ·refine Jk fun fr34 cr34=>?_
  refine kh (p:=.of [63,53]) (q:=.of [1]) (by repeat (first | exact mz | apply ms)) (by repeat (first | exact mz | apply ms)) fun fr35 cr35=>?_
  refine kR (p1:=.expr) (p2:=.of [63]) (p3:=.or (.of [63,53]) (.of [1])) (by repeat (first | exact mz | apply ms)) (by repeat (first | exact mz | apply ms)) (by repeat (first | exact mz | apply ms)) fun xr36=>?_
  exact df (by repeat (first | exact mz | apply ms)) rfl
 refine c9 (((k:Int)==54)||((k:Int)==56)) (bO rfl fun e=>cT e.symm) ?_
 refine bm ?_ ?_
 ·refine iJ (p1:=.expr) (p2:=.of [63]) (by repeat (first | exact mz | apply ms)) (by repeat (first | exact mz | apply ms)) fun xr39=>?_
  exact df (by repeat (first | exact mz | apply ms)) rfl
 refine bm ?_ ?_
 ·refine kh (p:=.isLet) (q:=.of [1]) (by repeat (first | exact mz | apply ms)) (by repeat (first | exact mz | apply ms)) fun fr41 cr41=>?_
  refine xq (p1:=.or (.isLet) (.of [1])) (p2:=.or (.expr) (.of [1])) (p3:=.or (.expr) (.of [1])) (p4:=.of [63]) (by repeat (first | exact mz | apply ms)) (by repeat (first | exact mz | apply ms)) (by repeat (first | exact mz | apply ms)) (by repeat (first | exact mz | apply ms)) fun xr42=>?_
  exact df (by repeat (first | exact mz | apply ms)) rfl
 refine bm ?_ ?_
 ·refine ek fun fr45 cr45=>?_
  refine kh (p:=.of [62]) (q:=.of [1]) (by repeat (first | exact mz | apply ms)) (by repeat (first | exact mz | apply ms)) fun fr46 cr46=>?_
  refine kh (p:=.of [63]) (q:=.of [1]) (by repeat (first | exact mz | apply ms)) (by repeat (first | exact mz | apply ms)) fun fr47 cr47=>?_
  refine kR (p1:=.of [63]) (p2:=.or (.of [62]) (.of [1])) (p3:=.or (.of [63]) (.of [1])) (by repeat (first | exact mz | apply ms)) (by repeat (first | exact mz | apply ms)) (by repeat (first | exact mz | apply ms)) fun xr48=>?_
  exact df (by repeat (first | exact mz | apply ms)) rfl
 refine bm ?_ ?_
 ·refine iB (p1:=.of [63]) (by repeat (first | exact mz | apply ms)) fun xr50=>?_
  exact df (by repeat (first | exact mz | apply ms)) rfl
 refine bm ?_ ?_
 ·refine kh (p:=.type) (q:=.of [1]) (by repeat (first | exact mz | apply ms)) (by repeat (first | exact mz | apply ms)) fun fr52 cr52=>?_
  refine iB (p1:=.or (.type) (.of [1])) (by repeat (first | exact mz | apply ms)) fun xr53=>?_
  exact df (by repeat (first | exact mz | apply ms)) rfl
 refine c9 (((k:Int)==83)||((k:Int)==85)) (bO rfl fun e=>cT e.symm) ?_
 refine bm ?_ ?_
 ·refine iB (p1:=.type) (by repeat (first | exact mz | apply ms)) fun xr56=>?_
  exact df (by repeat (first | exact mz | apply ms)) rfl
 refine bm ?_ ?_
 ·refine ek fun fr59 cr59=>?_
  exact kC (p:=.of [85]) (by repeat (first | exact mz | apply ms)) rfl
 refine bm ?_ ?_
 ·refine gL (q:=.plain) (by repeat (first | exact mz | apply ms)) fun fr61 cr61=>?_
  refine iJ (p1:=.rows (.plain)) (p2:=.type) (by repeat (first | exact mz | apply ms)) (by repeat (first | exact mz | apply ms)) fun xr62=>?_
  exact df (by repeat (first | exact mz | apply ms)) rfl
 exact IV rfl
def cM (k:Int):List Pl × Bool × Bool :=
 bif (((k:Int)==1)||(((k:Int)==10)||(((k:Int)==11)||(((k:Int)==13)||(((k:Int)==14)||(((k:Int)==15)||(((k:Int)==16)||(((k:Int)==18)||(((k:Int)==17)||(((k:Int)==32)||(((k:Int)==58)||(((k:Int)==59)||(((k:Int)==65)||(((k:Int)==67)||(((k:Int)==81)||((k:Int)==82)))))))))))))))) then ([],false,true)
 else bif ((k:Int)==2) then ([.any],true,true)
 else bif (((k:Int)==3)||((k:Int)==63)) then ([.stmt],true,true)
 else bif ((k:Int)==19) then ([.expr],true,true)
 else bif ((k:Int)==20) then ([.of [21]],true,true)
 else bif (((k:Int)==21)||(((k:Int)==23)||(((k:Int)==29)||(((k:Int)==34)||(((k:Int)==60)||((k:Int)==64)))))) then ([.expr],false,true)
 else bif ((k:Int)==22) then ([.rows (.of [67]),.rows (.plain),.or (.of [63]) (.expr)],false,true)
 else bif (((k:Int)==24)||((k:Int)==30)) then ([.expr,.expr],false,true)
 else bif ((k:Int)==25) then ([.expr,.expr,.expr],false,true)
 else bif ((k:Int)==26) then ([.spot,.expr],false,true)
 else bif ((k:Int)==27) then ([.expr,.rows (.type),.rows (.expr)],false,true)
 else bif ((k:Int)==28) then ([.path,.rows (.type),.rows (.expr)],false,true)
 else bif ((k:Int)==31) then ([.rows (.expr)],false,true)
 else bif ((k:Int)==33) then ([.expr,.type],false,true)
 else bif ((k:Int)==40) then ([.or (.type) (.of [1]),.expr],false,true)
 else bif (((k:Int)==41)||((k:Int)==45)) then ([.rows (.of [67]),.rows (.plain),.or (.type) (.of [1]),.of [63]],false,true)
 else bif ((k:Int)==42) then ([.rows (.of [67]),.or (.of [43]) (.of [1]),.rows (.of [80]),.members],false,true)
 else bif (((k:Int)==43)||((k:Int)==80)) then ([.rows (.type)],false,true)
 else bif ((k:Int)==44) then ([.or (.type) (.of [1]),.or (.expr) (.of [1])],false,true)
 else bif ((k:Int)==46) then ([.rows (.of [66]),.of [63]],false,true)
 else qQ k
set_option maxHeartbeats 4000000 in
theorem Hi {ε:Type} (k:Int):Meets PG (I0:av ε Unit) (aa mB #[.int .i64 k]) tP3 (Pure.pure (cM k)) mR []:=by
 refine Aq k (bc fun st=>?_)
 obtain rfl:st=():=rfl
 unfold mv cM
 refine zd ?_
 refine ek fun fr2 cr2=>?_
 refine ek fun fr4 cr4=>?_
 refine ek fun fr6 cr6=>?_
 refine gL (q:=.of [67]) (by repeat (first | exact mz | apply ms)) fun fr7 cr7=>?_
 refine gL (q:=.plain) (by repeat (first | exact mz | apply ms)) fun fr8 cr8=>?_
 refine gL (q:=.type) (by repeat (first | exact mz | apply ms)) fun fr9 cr9=>?_
 refine ek fun fr11 cr11=>?_
 refine gL (q:=.of [80]) (by repeat (first | exact mz | apply ms)) fun fr12 cr12=>?_
 refine gL (q:=.expr) (by repeat (first | exact mz | apply ms)) fun fr13 cr13=>?_
 refine kh (p:=.type) (q:=.of [1]) (by repeat (first | exact mz | apply ms)) (by repeat (first | exact mz | apply ms)) fun fr14 cr14=>?_
 refine kh (p:=.expr) (q:=.of [1]) (by repeat (first | exact mz | apply ms)) (by repeat (first | exact mz | apply ms)) fun fr15 cr15=>?_
 refine c9 (((k:Int)==1)||(((k:Int)==10)||(((k:Int)==11)||(((k:Int)==13)||(((k:Int)==14)||(((k:Int)==15)||(((k:Int)==16)||(((k:Int)==18)||(((k:Int)==17)||(((k:Int)==32)||(((k:Int)==58)||(((k:Int)==59)||(((k:Int)==65)||(((k:Int)==67)||(((k:Int)==81)||((k:Int)==82)))))))))))))))) (bO rfl fun e=>bO e fun e=>bO e fun e=>bO e fun e=>bO e fun e=>bO e fun e=>bO e fun e=>bO e fun e=>bO e fun e=>bO e fun e=>bO e fun e=>bO e fun e=>bO e fun e=>bO e fun e=>bO e fun e=>cT e.symm) ?_
 refine bm ?_ ?_
 ·exact Jh rfl
 refine bm ?_ ?_
 ·exact kC (p:=.any) (by repeat (first | exact mz | apply ms)) rfl
 refine c9 (((k:Int)==3)||((k:Int)==63)) (bO rfl fun e=>cT e.symm) ?_
 refine bm ?_ ?_
 ·exact kC (p:=.stmt) (by repeat (first | exact mz | apply ms)) rfl
 refine bm ?_ ?_
 ·exact kC (p:=.expr) (by repeat (first | exact mz | apply ms)) rfl
 refine bm ?_ ?_
 ·refine ek fun fr23 cr23=>?_
  exact kC (p:=.of [21]) (by repeat (first | exact mz | apply ms)) rfl
 refine c9 (((k:Int)==21)||(((k:Int)==23)||(((k:Int)==29)||(((k:Int)==34)||(((k:Int)==60)||((k:Int)==64)))))) (bO rfl fun e=>bO e fun e=>bO e fun e=>bO e fun e=>bO e fun e=>cT e.symm) ?_
 refine bm ?_ ?_
 ·refine iB (p1:=.expr) (by repeat (first | exact mz | apply ms)) fun xr26=>?_
  exact df (by repeat (first | exact mz | apply ms)) rfl
 refine bm ?_ ?_
 ·refine kh (p:=.of [63]) (q:=.expr) (by repeat (first | exact mz | apply ms)) (by repeat (first | exact mz | apply ms)) fun fr28 cr28=>?_
  refine kR (p1:=.rows (.of [67])) (p2:=.rows (.plain)) (p3:=.or (.of [63]) (.expr)) (by repeat (first | exact mz | apply ms)) (by repeat (first | exact mz | apply ms)) (by repeat (first | exact mz | apply ms)) fun xr29=>?_
  exact df (by repeat (first | exact mz | apply ms)) rfl
 refine c9 (((k:Int)==24)||((k:Int)==30)) (bO rfl fun e=>cT e.symm) ?_
 refine bm ?_ ?_
 ·refine iJ (p1:=.expr) (p2:=.expr) (by repeat (first | exact mz | apply ms)) (by repeat (first | exact mz | apply ms)) fun xr32=>?_
  exact df (by repeat (first | exact mz | apply ms)) rfl
 refine bm ?_ ?_
 ·refine kR (p1:=.expr) (p2:=.expr) (p3:=.expr) (by repeat (first | exact mz | apply ms)) (by repeat (first | exact mz | apply ms)) (by repeat (first | exact mz | apply ms)) fun xr34=>?_
  exact df (by repeat (first | exact mz | apply ms)) rfl
 refine bm ?_ ?_
 ·refine iJ (p1:=.spot) (p2:=.expr) (by repeat (first | exact mz | apply ms)) (by repeat (first | exact mz | apply ms)) fun xr36=>?_
  exact df (by repeat (first | exact mz | apply ms)) rfl
 refine bm ?_ ?_
 ·refine kR (p1:=.expr) (p2:=.rows (.type)) (p3:=.rows (.expr)) (by repeat (first | exact mz | apply ms)) (by repeat (first | exact mz | apply ms)) (by repeat (first | exact mz | apply ms)) fun xr38=>?_
  exact df (by repeat (first | exact mz | apply ms)) rfl
 refine bm ?_ ?_
 ·refine kR (p1:=.path) (p2:=.rows (.type)) (p3:=.rows (.expr)) (by repeat (first | exact mz | apply ms)) (by repeat (first | exact mz | apply ms)) (by repeat (first | exact mz | apply ms)) fun xr40=>?_
  exact df (by repeat (first | exact mz | apply ms)) rfl
 refine bm ?_ ?_
 ·refine iB (p1:=.rows (.expr)) (by repeat (first | exact mz | apply ms)) fun xr42=>?_
  exact df (by repeat (first | exact mz | apply ms)) rfl
 refine bm ?_ ?_
 ·refine iJ (p1:=.expr) (p2:=.type) (by repeat (first | exact mz | apply ms)) (by repeat (first | exact mz | apply ms)) fun xr44=>?_
  exact df (by repeat (first | exact mz | apply ms)) rfl
 refine bm ?_ ?_
 ·refine iJ (p1:=.or (.type) (.of [1])) (p2:=.expr) (by repeat (first | exact mz | apply ms)) (by repeat (first | exact mz | apply ms)) fun xr46=>?_
  exact df (by repeat (first | exact mz | apply ms)) rfl
 refine c9 (((k:Int)==41)||((k:Int)==45)) (bO rfl fun e=>cT e.symm) ?_
 refine bm ?_ ?_
 ·refine xq (p1:=.rows (.of [67])) (p2:=.rows (.plain)) (p3:=.or (.type) (.of [1])) (p4:=.of [63]) (by repeat (first | exact mz | apply ms)) (by repeat (first | exact mz | apply ms)) (by repeat (first | exact mz | apply ms)) (by repeat (first | exact mz | apply ms)) fun xr49=>?_
  exact df (by repeat (first | exact mz | apply ms)) rfl
 refine bm ?_ ?_
 ·refine ek fun fr52 cr52=>?_
  refine kh (p:=.of [43]) (q:=.of [1]) (by repeat (first | exact mz | apply ms)) (by repeat (first | exact mz | apply ms)) fun fr53 cr53=>?_
  refine xq (p1:=.rows (.of [67])) (p2:=.or (.of [43]) (.of [1])) (p3:=.rows (.of [80])) (p4:=.members) (by repeat (first | exact mz | apply ms)) (by repeat (first | exact mz | apply ms)) (by repeat (first | exact mz | apply ms)) (by repeat (first | exact mz | apply ms)) fun xr54=>?_
  exact df (by repeat (first | exact mz | apply ms)) rfl
 refine c9 (((k:Int)==43)||((k:Int)==80)) (bO rfl fun e=>cT e.symm) ?_
 refine bm ?_ ?_
 ·refine iB (p1:=.rows (.type)) (by repeat (first | exact mz | apply ms)) fun xr57=>?_
  exact df (by repeat (first | exact mz | apply ms)) rfl
 refine bm ?_ ?_
 ·refine iJ (p1:=.or (.type) (.of [1])) (p2:=.or (.expr) (.of [1])) (by repeat (first | exact mz | apply ms)) (by repeat (first | exact mz | apply ms)) fun xr59=>?_
  exact df (by repeat (first | exact mz | apply ms)) rfl
 refine bm ?_ ?_
 ·refine ek fun fr62 cr62=>?_
  refine gL (q:=.of [66]) (by repeat (first | exact mz | apply ms)) fun fr63 cr63=>?_
  refine iJ (p1:=.rows (.of [66])) (p2:=.of [63]) (by repeat (first | exact mz | apply ms)) (by repeat (first | exact mz | apply ms)) fun xr64=>?_
  exact df (by repeat (first | exact mz | apply ms)) rfl
 exact BU (JA k) fun A hA=>nomatch hA
end Go.Proofs.YtjlgcpgjdgeejaaGreatDoor
end

section
namespace Go.Proofs.YtjlgcpgjdgeejaaGreatDoor
open Go
set_option linter.unusedVariables false
set_option maxRecDepth 100000
noncomputable section
def Bn:An :=
 .s (.r [none]) (.s (.s (.j [(14,.b .bool)] (.r [none,none,none,none,some cB,some tB,none,none,none,some tB,none])) (.c (.s (.r [none]) (.x)) (.x))) (.s (.s (.r [none,none,none]) (.b (.l [(17,.b (.int .i64))] (.s (.r [none]) (.s (.c (.x) (.x)) (.s (.b (.s (.r [none,none]) (.s (.r [none,none,some cB,some tB,none,none,none,none,some cB,some tB,none,none]) (.c (.s (.r [none]) (.x)) (.x))))) (.r [none,none]))))))) (.s (.r [none]) (.x))))
def oG (a0_s:ByteArray):T :=
 .join 0 [.b .bool] (
 .ite (a0_s.toList==kE.toList) (
 .out 0 [.bool true]) (
 .op (qk aF (.string a0_s) (.int .i64 0)) cB fun r1 =>
 .op (aa eY #[.int .u8 r1]) tB fun r2 =>
 .ite r2 (
 .out 0 [.bool true]) (
 .op (aa gW #[.string a0_s]) tB fun r3 =>
 .out 0 [.bool r3]))) fun x4 =>
 .ite x4.1 (
 .ret #[.v (.bool false)]) (
 .loop 0 [.b (.int .i64)] [.int .i64 0] fun x5 =>
 .ite (decide ((x5.1:Int) < (a0_s.size:Int))) (
 .op (qk aF (.string a0_s) (.int .i64 x5.1)) cB fun r6 =>
 .op (aa fo #[.int .u8 r6]) tB fun r7 =>
 .ite (!r7) (
 .op (qk aF (.string a0_s) (.int .i64 x5.1)) cB fun r8 =>
 .op (aa eY #[.int .u8 r8]) tB fun r9 =>
 .ite (!r9) (
 .ret #[.v (.bool false)]) (
 .out 0 [.int .i64 (IntKind.i64.wrap (x5.1+1))])) (
 .out 0 [.int .i64 (IntKind.i64.wrap (x5.1+1))])) (
 .ret #[.v (.bool true)]))
theorem C0 (a0_s:ByteArray):bh Tryz.prog Tryz.f117 Bn [.string a0_s]=oG a0_s:=by kernel_rfl
theorem Dt {ε σ β:Type} {I:av ε σ} {t:Ty} {s:Sp ε σ β} {Rel:β→t.den→al→Fact} {Γ:List Fact} (a0_s:ByteArray) (h:Sim Tryz.prog I t Rel noLabel none (oG a0_s) s [] Γ):MeetsO Tryz.prog I (aa fK #[.string a0_s]) t s Rel Γ :=
 aj (args:=[.string a0_s]) Tryz.func117 rfl rfl (Nat.le_of_ble_eq_true rfl) (by rw [C0]; exact h)
end
end Go.Proofs.YtjlgcpgjdgeejaaGreatDoor
end

section
namespace Go.Proofs.YtjlgcpgjdgeejaaGreatDoor
open Go
set_option linter.unusedSimpArgs false
set_option linter.unusedVariables false
set_option linter.constructorNameAsVariable false
set_option maxRecDepth 100000
theorem pq {t:TypeId} {k k2:IntKind} (x y:Int) (hy:0≤y) (w:World):(bT .shr t (.int k x) (.int k2 y)).run PG w=.ok (.value (.int k (x.fdiv (2 ^ min y.toNat k.bits)))) w:=by
 have h:¬ y < 0:=by omega
 simp [bT,cj,eqGuard,binOp,Op.shift,h]
theorem II {t:TypeId} {k k2:IntKind} (x y:Int) (hy:0≤y) (w:World):(bT .shl t (.int k x) (.int k2 y)).run PG w=.ok (.value (.int k (k.wrap (x * 2 ^ min y.toNat k.bits)))) w:=by
 have h:¬ y < 0:=by omega
 simp [bT,cj,eqGuard,binOp,Op.shift,h]
def ox (k:IntKind) (a b:Int):Int:=k.wrap (BitVec.ofInt k.bits a &&&BitVec.ofInt k.bits b).toNat
def HX (k:IntKind) (a b:Int):Int:=k.wrap (BitVec.ofInt k.bits a |||BitVec.ofInt k.bits b).toNat
theorem qt {t:TypeId} {k:IntKind} (a b:Int) (w:World):(bT .and t (.int k a) (.int k b)).run PG w=.ok (.value (.int k (ox k a b))) w:=by
 simp [bT,cj,eqGuard,binOp,Op.intBits,ox]
theorem IS {t:TypeId} {k:IntKind} (a b:Int) (w:World):(bT .or t (.int k a) (.int k b)).run PG w=.ok (.value (.int k (HX k a b))) w:=by
 simp [bT,cj,eqGuard,binOp,Op.intBits,HX]
theorem i3 {p:Nat→Bool} {n:Nat} (h:(List.range n).all p=true) {c:Nat} (hc:c < n):p c=true:=List.all_eq_true.1 h c (List.mem_range.2 hc)
theorem J2 {c:Nat} (h:c < 256):ox .u8 c 31=(c % 32:Nat):=eq_of_beq (i3 (p:=fun c=>ox .u8 c 31==(c % 32:Nat)) (show (List.range 256).all _=true from by kernel_rfl) h)
theorem KG {c:Nat} (h:c < 256):ox .u8 c 15=(c % 16:Nat):=eq_of_beq (i3 (p:=fun c=>ox .u8 c 15==(c % 16:Nat)) (show (List.range 256).all _=true from by kernel_rfl) h)
theorem LO {c:Nat} (h:c < 256):ox .u8 c 7=(c % 8:Nat):=eq_of_beq (i3 (p:=fun c=>ox .u8 c 7==(c % 8:Nat)) (show (List.range 256).all _=true from by kernel_rfl) h)
theorem Kc {c:Nat} (h:c < 256):ox .u8 c 63=(c % 64:Nat):=eq_of_beq (i3 (p:=fun c=>ox .u8 c 63==(c % 64:Nat)) (show (List.range 256).all _=true from by kernel_rfl) h)
theorem nq {n:Nat} (h:n < 2147483648):IntKind.i32.wrap (n:Int)=n:=by
 have e:((n:Int) % 2 ^ 32)=n:=by omega
 simp only [IntKind.wrap,IntKind.bits,IntKind.signed,Bool.true_and,decide_eq_true_eq,e]
 rw [if_neg (by omega)]
theorem Ll {a c:Nat} (ha:a < 33554432):HX .i32 ((a * 64:Nat):Int) ((c % 64:Nat):Int)=((a * 64+c % 64:Nat):Int):=by
 unfold HX
 have h1:c % 64 < 2 ^ 6:=Nat.mod_lt _ (by decide)
 have e:=Nat.shiftLeft_add_eq_or_of_lt h1 a
 rw [Nat.shiftLeft_eq] at e
 have e2:(BitVec.ofInt IntKind.i32.bits ((a * 64:Nat):Int) |||BitVec.ofInt IntKind.i32.bits ((c % 64:Nat):Int)).toNat=a * 64+c % 64:=by
  rw [BitVec.toNat_or,BitVec.ofInt_natCast,BitVec.ofInt_natCast,BitVec.toNat_ofNat,BitVec.toNat_ofNat,Nat.mod_eq_of_lt (show a * 64 < 2 ^ IntKind.i32.bits from by show a * 64 < 4294967296; omega),Nat.mod_eq_of_lt (show c % 64 < 2 ^ IntKind.i32.bits from by show c % 64 < 4294967296; omega)]
  exact e.symm
 rw [e2]
 exact nq (by omega)
theorem I1 {c:Nat} (h:c < 256):(c:Int).fdiv (2 ^ min (3:Int).toNat IntKind.u8.bits)=((c / 8:Nat):Int):=eq_of_beq (i3 (p:=fun c=>(c:Int).fdiv (2 ^ min (3:Int).toNat IntKind.u8.bits)==((c / 8:Nat):Int)) (show (List.range 256).all _=true from by kernel_rfl) h)
theorem Js {c:Nat} (h:c < 256):(c:Int).fdiv (2 ^ min (4:Int).toNat IntKind.u8.bits)=((c / 16:Nat):Int):=eq_of_beq (i3 (p:=fun c=>(c:Int).fdiv (2 ^ min (4:Int).toNat IntKind.u8.bits)==((c / 16:Nat):Int)) (show (List.range 256).all _=true from by kernel_rfl) h)
theorem JK {c:Nat} (h:c < 256):(c:Int).fdiv (2 ^ min (5:Int).toNat IntKind.u8.bits)=((c / 32:Nat):Int):=eq_of_beq (i3 (p:=fun c=>(c:Int).fdiv (2 ^ min (5:Int).toNat IntKind.u8.bits)==((c / 32:Nat):Int)) (show (List.range 256).all _=true from by kernel_rfl) h)
theorem I7 {c:Nat} (h:c < 256):(c:Int).fdiv (2 ^ min (6:Int).toNat IntKind.u8.bits)=((c / 64:Nat):Int):=eq_of_beq (i3 (p:=fun c=>(c:Int).fdiv (2 ^ min (6:Int).toNat IntKind.u8.bits)==((c / 64:Nat):Int)) (show (List.range 256).all _=true from by kernel_rfl) h)
def cw (c:Nat):Nat × Nat:=if c < 128 then (1,c) else if c / 32=6 then (2,c % 32) else if c / 16=14 then (3,c % 16) else if c / 8=30 then (4,c % 8) else (0,0)
def qu (r n:Int):Bool:=if n=1 then true else if n=2 then decide (128≤r) else if n=3 then decide (2048≤r)&&(decide (r < 55296)||decide (57343 < r)) else decide (65536≤r)&&decide (r≤1114111)
def bN (b:ByteArray) (i:Nat):Nat:=(a7 b i).toNat
def mX (b:ByteArray):Nat→Nat→Nat→Option Nat
 | 0,_,r=>some r
 | k+1,i,r=>if bN b i / 64=2 then mX b k (i+1) (r * 64+bN b i % 64) else none
def qn:HC [.b (.int .i32),.b (.int .i64),.b .bool]:=(65533,1,false,())
def gl (b:ByteArray) (i:Nat):HC [.b (.int .i32),.b (.int .i64),.b .bool] :=
 if b.size≤i then (0,0,false,())
 else if (cw (bN b i)).1=0∨b.size - i < (cw (bN b i)).1 then qn
 else match mX b ((cw (bN b i)).1 - 1) (i+1) (cw (bN b i)).2 with
  | none=>qn
  | some r=>if qu r (cw (bN b i)).1 then ((r:Int),((cw (bN b i)).1:Int),true,()) else qn
theorem vi (b:ByteArray) (i:Nat):bN b i < 256:=by have:=yY b i; unfold bN; omega
theorem Il (b:ByteArray) (i:Nat):a7 b i=(bN b i:Int):=by have:=yY b i; unfold bN; omega
theorem FJ {c:Nat} (h:c < 256):(cw c).1≤4:=of_decide_eq_true (i3 (p:=fun c=>decide ((cw c).1≤4)) (show (List.range 256).all _=true from by kernel_rfl) h)
theorem I3 {c:Nat} (h:c < 256):(cw c).2 < 128:=of_decide_eq_true (i3 (p:=fun c=>decide ((cw c).2 < 128)) (show (List.range 256).all _=true from by kernel_rfl) h)
theorem Jc {ε:Type} (c:Nat) (hc:c < 256):Meets PG (I0:av ε Unit) (aa o5 #[.int .u8 c]) (.tup [.b (.int .i64),.b (.int .i32)]) (Pure.pure (((cw c).1:Int),((cw c).2:Int),())) aJ []:=by
 refine De c (bc fun st=>?_)
 unfold o3
 refine aD (fun h=>?_) (fun h=>?_)
 ·have h':c < 128:=by have:=of_decide_eq_true h; omega
  refine cY (t:=.tup [.b (.int .i64),.b (.int .i32)]) _ (((cw c).1:Int),((cw c).2:Int),()) rfl (fun r w F H _ _=>?_) fun F hF=>rfl
  rw [nq (by omega)]; unfold cw; rw [if_pos h',il]; rfl
 have h':¬ c < 128:=by have:=of_decide_eq_false h; omega
 refine cd (t1:=cB) ((c / 32:Nat):Int) (PVal.pure fun w=>by rw [pq _ _ (by decide),JK hc]; rfl) ?_
 refine aD (fun h2=>?_) (fun h2=>?_)
 ·have h2':c / 32=6:=by
   have h:((c / 32:Nat):Int)=6:=eq_of_beq h2
   omega
  refine cd (t1:=cB) ((c % 32:Nat):Int) (PVal.pure fun w=>by rw [qt,J2 hc]; rfl) ?_
  refine cY (t:=.tup [.b (.int .i64),.b (.int .i32)]) _ (((cw c).1:Int),((cw c).2:Int),()) rfl (fun r w F H _ _=>?_) fun F hF=>rfl
  rw [nq (by omega)]; unfold cw; rw [if_neg h',if_pos h2',il]; rfl
 have h2':¬ c / 32=6:=by
  intro h0
  rw [h0] at h2
  cases h2
 refine cd (t1:=cB) ((c / 16:Nat):Int) (PVal.pure fun w=>by rw [pq _ _ (by decide),Js hc]; rfl) ?_
 refine aD (fun h3=>?_) (fun h3=>?_)
 ·have h3':c / 16=14:=by
   have h:((c / 16:Nat):Int)=14:=eq_of_beq h3
   omega
  refine cd (t1:=cB) ((c % 16:Nat):Int) (PVal.pure fun w=>by rw [qt,KG hc]; rfl) ?_
  refine cY (t:=.tup [.b (.int .i64),.b (.int .i32)]) _ (((cw c).1:Int),((cw c).2:Int),()) rfl (fun r w F H _ _=>?_) fun F hF=>rfl
  rw [nq (by omega)]; unfold cw; rw [if_neg h',if_neg h2',if_pos h3',il]; rfl
 have h3':¬ c / 16=14:=by
  intro h0
  rw [h0] at h3
  cases h3
 refine cd (t1:=cB) ((c / 8:Nat):Int) (PVal.pure fun w=>by rw [pq _ _ (by decide),I1 hc]; rfl) ?_
 refine aD (fun h4=>?_) (fun h4=>?_)
 ·have h4':c / 8=30:=by
   have h:((c / 8:Nat):Int)=30:=eq_of_beq h4
   omega
  refine cd (t1:=cB) ((c % 8:Nat):Int) (PVal.pure fun w=>by rw [qt,LO hc]; rfl) ?_
  refine cY (t:=.tup [.b (.int .i64),.b (.int .i32)]) _ (((cw c).1:Int),((cw c).2:Int),()) rfl (fun r w F H _ _=>?_) fun F hF=>rfl
  rw [nq (by omega)]; unfold cw; rw [if_neg h',if_neg h2',if_neg h3',if_pos h4',il]; rfl
 have h4':¬ c / 8=30:=by
  intro h0
  rw [h0] at h4
  cases h4
 refine cY (t:=.tup [.b (.int .i64),.b (.int .i32)]) _ (((cw c).1:Int),((cw c).2:Int),()) rfl (fun r w F H _ _=>?_) fun F hF=>rfl
 unfold cw; rw [if_neg h',if_neg h2',if_neg h3',if_neg h4',il]; rfl
theorem IA {ε:Type} (r n:Int):Meets PG (I0:av ε Unit) (aa oF #[.int .i32 r,.int .i64 n]) tB (Pure.pure (qu r n)) aJ []:=by
 refine DJ r n (bc fun st=>?_)
 unfold oW
 repeat' (first | refine aD (fun h=>?_) (fun h=>?_) | refine eF (t:=tB) _ rfl ?_)
 all_goals (show _=_; simp_all [qu,Pure.pure,Sp.pure]<;>omega)
end Go.Proofs.YtjlgcpgjdgeejaaGreatDoor
end

section
namespace Go.Proofs.YtjlgcpgjdgeejaaGreatDoor
open Go
set_option linter.unusedSimpArgs false
set_option linter.unusedVariables false
set_option linter.constructorNameAsVariable false
set_option maxRecDepth 100000
abbrev Ce:Ty:=.tup [.b (.int .i32),.b (.int .i64),.b .bool]
theorem Gf {b:ByteArray} {i j k:Nat} (hj:j≤b.size) (hk:i+k < j):∃ h1:k < (b.extract i j).size,∃ h2:i+k < b.size,(b.extract i j)[k]=b[i+k]:=by
 refine ⟨by rw [ByteArray.size_extract]; omega,by omega,?_⟩
 rw [ByteArray.getElem_extract]
theorem ByF.sub {sl:aI} {b:ByteArray} {F:Heap} (h:(ByF sl b).p F) {i j:Nat} (hij:i≤j) (hj:j≤b.size):(ByF (gj sl i j) (b.extract i j)).p F:=by
 obtain ⟨h1,h2,h3⟩:=h
 have hsz:(b.extract i j).size=j - i:=by rw [ByteArray.size_extract]; omega
 refine ⟨hsz.symm,by show j - i≤sl.2.2 - i; omega,?_⟩
 by_cases hz:j - i=0
 ·exact .inl (by omega)
 ·rcases h3 with h3 | ⟨a,c,T0,fr,g1,g2,g3,g4⟩
  ·omega
  ·obtain ⟨x1,x2,x3⟩:=dx a g2 (i * 1)
   refine .inr ⟨a.add (i * 1),c,T0,fr,?_,x3,by rw [x1]; exact g3,fun k hk=>?_⟩
   ·show (if sl.2.2=i then sl.1 else sl.1.map (·.add (i * 1)))=_
    rw [if_neg (by omega),g1]; rfl
   ·obtain ⟨_,q2,q3⟩:=Gf (b:=b) (i:=i) (j:=j) (k:=k) hj (by omega)
    rw [q3,x2,Nat.mul_one,Nat.add_assoc]
    exact g4 (i+k) q2
theorem I4 {b:ByteArray} {i j k:Nat} (hj:j≤b.size) (hk:i+k < j):bN (b.extract i j) k=bN b (i+k):=by
 obtain ⟨q1,q2,q3⟩:=Gf (b:=b) hj hk
 unfold bN
 rw [Bs _ _ q1,Bs _ _ q2,q3]
theorem G2 {ε:Type} (sl:aI) (b:ByteArray) (hb:b.size≤1099511627776) (i:Nat) (hi:i≤1099511627776):Meets PG (I0:av ε Unit) (aa lV #[.slice sl.1 sl.2.1 sl.2.2,.int .i64 i]) Ce (Pure.pure (gl b i)) aJ [ByF sl b]:=by
 refine AQ sl i (bc fun st=>?_)
 obtain rfl:st=():=rfl
 unfold l4
 refine jU (b:=b) (by repeat (first | exact mz | apply ms)) fun hl=>?_
 refine c9 (decide (b.size≤i)) (aD (fun h=>by have:=of_decide_eq_true h; omega) fun h=>cT (by
  rw [hl]; exact decide_eq_decide.2 (by omega))) ?_
 refine aD (fun h=>?_) (fun h=>?_)
 ·have h':b.size≤i:=of_decide_eq_true h
  refine cY (t:=Ce) (gl b i) (0,0,false,()) rfl (fun r w F H _ _=>by rw [hO]; rfl) fun F hF=>?_
  show (0,0,false,())=gl b i
  unfold gl; rw [if_pos h']
 have h':¬ b.size≤i:=of_decide_eq_false h
 refine nE (b:=b) i (by repeat (first | exact mz | apply ms)) rfl (by omega) ?_
 rw [Il]
 refine bW (Jc (bN b i) (vi b i)) (fun A hA=>nomatch hA) ?_
 have hn4:=FJ (vi b i)
 have hr0:=I3 (vi b i)
 have hd:gl b i=if (cw (bN b i)).1=0∨b.size - i < (cw (bN b i)).1 then qn
   else match mX b ((cw (bN b i)).1 - 1) (i+1) (cw (bN b i)).2 with
    | none=>qn
    | some r=>if qu r (cw (bN b i)).1 then ((r:Int),((cw (bN b i)).1:Int),true,()) else qn:=by
  exact if_neg h'
 revert hn4 hr0 hd
 generalize cw (bN b i)=w
 obtain ⟨n,r0⟩:=w
 simp only
 intro hn4 hr0 hd
 have rbad:∀ {Δ:Labels ε Unit (HC [.b (.int .i32),.b (.int .i64),.b .bool])} {md:cK} {Γ:List Fact},gl b i=qn→au PG (I0:av ε Unit) Ce (pl aJ) Δ md () (.ret #[.v (.int .i32 65533),.v (.int .i64 1),.v (.bool false)]) ((Pure.pure (gl b i):Sp ε Unit _) ()) [] Γ:=fun hbad=>by
  rw [hbad]
  exact cY (t:=Ce) qn qn rfl (fun r w F H _ _=>by rw [hO]; rfl) fun F hF=>rfl
 refine c9 (decide (n=0∨b.size - i < n)) (aD (fun h2=>cT (by
   have h2':(n:Int)=0:=eq_of_beq h2
   rw [decide_eq_true (Or.inl (by omega))])) fun h2=>cT (by
   have h2':¬ (n:Int)=0:=fun h0=>by rw [h0] at h2; cases h2
   rw [hl,aS (by omega) (by omega)]
   exact decide_eq_decide.2 ⟨fun h3=>Or.inr (by have h3:(n:Int) > (b.size:Int) - (i:Int):=h3; omega),fun h3=>by show (n:Int) > (b.size:Int) - (i:Int); omega⟩)) ?_
 refine aD (fun h2=>?_) (fun h2=>?_)
 ·have h2':n=0∨b.size - i < n:=of_decide_eq_true h2
  exact rbad (by rw [hd,if_pos h2'])
 have h2':¬ (n=0∨b.size - i < n):=of_decide_eq_false h2
 rw [if_neg h2'] at hd
 refine cd (t1:=ah) (gj sl (i+1) (i+n)) (Ch (b:=b) (by repeat (first | exact mz | apply ms)) (i+1) (i+n) (by rw [aS (by omega) (by omega)]; rfl) (by show IntKind.i64.wrap ((i:Int)+(n:Int))=_; rw [aS (by omega) (by omega)]; rfl) (by omega) (by omega)) ?_
 refine cA (A:=ByF (gj sl (i+1) (i+n)) (b.extract (i+1) (i+n))) (fun F hF=>ByF.sub (hF (ByF sl b) (by repeat (first | exact mz | apply ms))) (by omega) (by omega)) ?_
 have hes:(b.extract (i+1) (i+n)).size=n - 1:=by rw [ByteArray.size_extract]; omega
 refine eo (δ:=Nat) (ts:=[.b (.int .i32)]) (fun d=>((d:Int),())) (fun d L'=>Fact.prop (L'=[]∧mX b (n - 1) (i+1) r0=some d∧d < 2147483648)) (fun _ _=>(Pure.pure (gl b i):Sp ε Unit _) ()) ?_ ?_
 ·refine sU (δ:=Nat) (ts:=[.b (.int .i32),.b (.int .i64)]) (n - 1) (fun j d=>((d:Int),(j:Int),())) (fun j d L'=>Fact.prop (L'=[]∧mX b (n - 1 - j) (i+1+j) d=mX b (n - 1) (i+1) r0∧d < 128 * 64 ^ j)) r0 rfl (fun F hF=>⟨rfl,rfl,by omega⟩) fun j d L' Δ' hj hΔ out=>?_
  refine br fun F0 hx=>?_
  obtain ⟨rfl,hc,hdb⟩:=hx
  have hpow:128 * 64 ^ j≤33554432:=by
   have:j≤3:=by omega
   have:64 ^ j≤64 ^ 3:=Nat.pow_le_pow_right (by decide) this
   omega
  refine aD (fun h3=>?_) (fun h3=>?_)
  ·have h3':j < n - 1:=by
    have h3:(j:Int) < ((i+n - (i+1):Nat):Int):=of_decide_eq_true h3
    omega
   refine nE (b:=b.extract (i+1) (i+n)) j (by repeat (first | exact mz | apply ms)) rfl (by omega) ?_
   rw [Il,I4 (by omega) (by omega)]
   have hlt:=vi b (i+1+j)
   obtain ⟨f,hf⟩:∃ f,n - 1 - j=f+1:=⟨n - 1 - j - 1,by omega⟩
   rw [hf] at hc
   have hc2:mX b (f+1) (i+1+j) d=if bN b (i+1+j) / 64=2 then mX b f (i+1+j+1) (d * 64+bN b (i+1+j) % 64) else none:=rfl
   rw [hc2] at hc
   revert hlt hc
   generalize bN b (i+1+j)=c
   intro hlt hc
   refine cd (t1:=cB) ((c / 64:Nat):Int) (PVal.pure fun w=>by rw [pq _ _ (by decide),I7 hlt]; rfl) ?_
   refine aD (fun h4=>?_) (fun h4=>?_)
   ·have h4':¬ c / 64=2:=fun h0=>by rw [h0] at h4; cases h4
    rw [if_neg h4'] at hc
    exact rbad (by rw [hd,← hc])
   ·have h4':c / 64=2:=by
     have:(!(((c / 64:Nat):Int)==2))=false:=h4
     have:=eq_of_beq (eO this)
     omega
    rw [if_pos h4'] at hc
    refine cd (t1:=ys) ((d * 64:Nat):Int) (PVal.pure fun w=>by
     rw [II _ _ (by decide)]
     have:(d:Int) * 2 ^ min (6:Int).toNat IntKind.i32.bits=((d * 64:Nat):Int):=by
      show (d:Int) * 64=_
      omega
     show Result.ok (Next.value (Value.int .i32 (IntKind.i32.wrap ((d:Int) * 2 ^ min (6:Int).toNat IntKind.i32.bits)))) w=_
     rw [this,nq (by omega)]; rfl) ?_
    refine cd (t1:=cB) ((c % 64:Nat):Int) (PVal.pure fun w=>by rw [qt,Kc hlt]; rfl) ?_
    refine cd (t1:=ys) ((d * 64+c % 64:Nat):Int) (PVal.pure fun w=>by rw [nq (by omega),IS,Ll (by omega)]; rfl) ?_
    refine out (d * 64+c % 64) h3' ?_ fun F hF=>⟨rfl,?_,?_⟩
    ·show [Value.int .i32 ((d * 64+c % 64:Nat):Int),Value.int .i64 (IntKind.i64.wrap ((j:Int)+1))]=[Value.int .i32 ((d * 64+c % 64:Nat):Int),Value.int .i64 ((j+1:Nat):Int)]
     rw [aS (by omega) (by omega)]; rfl
    ·rw [show n - 1 - (j+1)=f by omega,← hc,Nat.add_assoc (i+1) j 1]
    ·rw [Nat.pow_succ]; omega
  ·have h3':¬ j < n - 1:=by
    have h3:¬ (j:Int) < ((i+n - (i+1):Nat):Int):=of_decide_eq_false h3
    omega
   rw [show n - 1 - j=0 by omega] at hc
   exact fy d ((hΔ 0 (by decide)).trans cn) rfl rfl fun F hF=>⟨rfl,hc.symm,by omega⟩
 ·rintro d L' ⟨⟩
  refine br fun F0 hx=>?_
  obtain ⟨rfl,hc,hdb⟩:=hx
  rw [hc] at hd
  refine bW (IA (d:Int) (n:Int)) (fun A hA=>nomatch hA) ?_
  refine aD (fun h3=>?_) (fun h3=>?_)
  ·have h3':qu d n=false:=fQ h3
   exact rbad (by rw [hd]; simp only [h3']; rfl)
  ·have h3':qu d n=true:=eO h3
   have hd':gl b i=((d:Int),(n:Int),true,()):=by rw [hd]; simp only [h3']; rfl
   rw [hd']
   exact cY (t:=Ce) ((d:Int),(n:Int),true,()) ((d:Int),(n:Int),true,()) rfl (fun r w F H _ _=>by rw [hO]; rfl) fun F hF=>rfl
end Go.Proofs.YtjlgcpgjdgeejaaGreatDoor
end

section
namespace Go.Proofs.YtjlgcpgjdgeejaaGreatDoor
open Go
set_option linter.unusedSimpArgs false
set_option linter.unusedVariables false
set_option linter.constructorNameAsVariable false
set_option maxRecDepth 100000
def rh (s:ByteArray):Nat→Nat→Bool
 | 0,i=>decide (s.size≤i)
 | f+1,i=>if s.size≤i then true else if (gl (s.extract i (min (i+4) s.size)) 0).2.2.1 then rh s f (i+(gl (s.extract i (min (i+4) s.size)) 0).2.1.toNat) else false
def EM (s:ByteArray):Bool:=rh s (s.size+1) 0
theorem Jj {b:ByteArray} {i:Nat} (h:(gl b i).2.2.1=true):∃ n:Nat,1≤n∧n≤4∧(gl b i).2.1=(n:Int):=by
 have hn4:=FJ (vi b i)
 unfold gl at h ⊢
 by_cases h1:b.size≤i
 ·rw [if_pos h1] at h; cases h
 rw [if_neg h1] at h ⊢
 by_cases h2:(cw (bN b i)).1=0∨b.size - i < (cw (bN b i)).1
 ·rw [if_pos h2] at h; cases h
 rw [if_neg h2] at h ⊢
 revert h
 cases mX b ((cw (bN b i)).1 - 1) (i+1) (cw (bN b i)).2 with
 | none=>intro h; cases h
 | some r =>
  simp only
  by_cases h3:qu r (cw (bN b i)).1=true
  ·rw [if_pos h3]; exact fun _=>⟨_,by omega,hn4,rfl⟩
  ·rw [if_neg h3]; intro h; cases h
theorem JR {ε:Type} (s:ByteArray) (hs:s.size≤1048576):Meets PG (I0:av ε Unit) (aa oH #[.string s]) tB (Pure.pure (EM s)) aJ []:=by
 refine DL s (bc fun st=>?_)
 obtain rfl:st=():=rfl
 unfold oY
 refine sU (δ:=Nat) (ts:=[.b (.int .i64)]) (s.size+1) (fun j d=>((d:Int),())) (fun j d L'=>Fact.prop (L'=[]∧j≤d∧d≤s.size+4∧rh s (s.size+1 - j) d=EM s)) 0 rfl (fun F hF=>⟨rfl,by omega,by omega,rfl⟩) fun j d L' Δ' hj hΔ out=>?_
 refine br fun F0 hx=>?_
 obtain ⟨rfl,hjd,hds,hg⟩:=hx
 refine aD (fun h=>?_) (fun h=>?_)
 ·have h':d < s.size:=by have h:(d:Int) < (s.size:Int):=of_decide_eq_true h; omega
  obtain ⟨f,hf⟩:∃ f,s.size+1 - j=f+1:=⟨s.size - j,by omega⟩
  rw [hf] at hg
  have hg2:rh s (f+1) d=if s.size≤d then true else if (gl (s.extract d (min (d+4) s.size)) 0).2.2.1 then rh s f (d+(gl (s.extract d (min (d+4) s.size)) 0).2.1.toNat) else false:=rfl
  rw [hg2,if_neg (by omega)] at hg
  have hm:(if (IntKind.i64.wrap ((d:Int)+4):Int) < (s.size:Int) then IntKind.i64.wrap ((d:Int)+4) else (s.size:Int))=((min (d+4) s.size:Nat):Int):=by
   rw [aS (by omega) (by omega)]
   by_cases hlt:(d:Int)+4 < (s.size:Int)
   ·rw [if_pos hlt]; omega
   ·rw [if_neg hlt]; omega
  refine cd (t1:=tS) (s.extract d (min (d+4) s.size)) (PVal.pure fun w=>by
   show (d8 aF (.string s) (some (.int .i64 d)) (some (.int .i64 (if (IntKind.i64.wrap ((d:Int)+4):Int) < (s.size:Int) then IntKind.i64.wrap ((d:Int)+4) else (s.size:Int)))) none).run PG w=_
   rw [hm,E5 (by kernel_rfl) (by omega) (by omega) (by omega)]; rfl) ?_
  refine bY (y4 (s.extract d (min (d+4) s.size))) ?_
  rintro y _ _ ⟨rfl,rfl⟩
  refine bW (G2 y (s.extract d (min (d+4) s.size)) (by rw [ByteArray.size_extract]; omega) 0 (by omega)) (fun A hA=>by obtain rfl:=List.mem_singleton.1 hA; exact (by repeat (first | exact mz | apply ms))) ?_
  refine aD (fun h2=>?_) (fun h2=>?_)
  ·have h2':(gl (s.extract d (min (d+4) s.size)) 0).2.2.1=false:=fQ h2
   refine bI ?_
   rw [← hg,h2']; rfl
  ·have h2':(gl (s.extract d (min (d+4) s.size)) 0).2.2.1=true:=eO h2
   obtain ⟨n,hn1,hn2,hn⟩:=Jj h2'
   rw [if_pos h2',hn,Int.toNat_natCast] at hg
   refine out (d+n) (by omega) ?_ fun F hF=>⟨rfl,by omega,by omega,?_⟩
   ·show [Value.int .i64 (IntKind.i64.wrap ((d:Int)+(gl (s.extract d (min (d+4) s.size)) 0).2.1))]=[Value.int .i64 ((d+n:Nat):Int)]
    rw [hn,aS (by omega) (by omega)]; rfl
   ·rw [show s.size+1 - (j+1)=f by omega]; exact hg
 ·have h':s.size≤d:=by have h:¬ (d:Int) < (s.size:Int):=of_decide_eq_false h; omega
  refine bI ?_
  rw [← hg]
  cases s.size+1 - j with
  | zero=>exact (decide_eq_true h').symm
  | succ f =>
   show true=if s.size≤d then true else _
   rw [if_pos h']
def pN (s:ByteArray):Bool:=!(s.toList==kE.toList||(cz (a7 s 0)||qO s))&&(List.range s.size).all fun i=>dp (a7 s i)||cz (a7 s i)
theorem Eu {s:ByteArray} (h:(s.toList==kE.toList)=false):0 < s.size:=by
 rcases Nat.eq_zero_or_pos s.size with h0 | h0
 ·exfalso
  have e:s.toList=[]:=by
   rw [ByteArray.toList_eq]
   exact List.eq_nil_of_length_eq_zero (by rw [Fw]; exact h0)
  have e2:(([]:List UInt8)==kE.toList)=true:=by kernel_rfl
  rw [e,e2] at h
  cases h
 ·exact h0
section
variable {ε β:Type} {t:Ty} {Rel:β→t.den→al→Fact} {Δ:Labels ε Unit β} {md:cK} {Γ:List Fact} {st:Unit} {L:al}
theorem FU {run:Option (Res ε Unit β)} {l:Nat} {b c c':Bool} {y:T} (h:c=(b||c')) (hy:b=false→c=c'→au PG (I0:av ε Unit) t Rel (Δ.set l (u7 [.b .bool] (fun _:Unit=>(c,())) (fun _ L'=>Fact.prop (L'=L)) (fun _ _=>run))) md st y run L Γ) :
  au PG (I0:av ε Unit) t Rel (Δ.set l (u7 [.b .bool] (fun _:Unit=>(c,())) (fun _ L'=>Fact.prop (L'=L)) (fun _ _=>run))) md st (.ite b (.out l [.bool true]) y) run L Γ:=by
 refine aD (fun hb=>cT ?_) (fun hb=>hy hb ?_)
 ·rw [h,hb]; rfl
 ·rw [h,hb]; rfl
end
theorem pu {ε:Type} (s:ByteArray) (hs:s.size≤1048576):Meets PG (I0:av ε Unit) (aa fK #[.string s]) tB (Pure.pure (pN s)) aJ [MxF]:=by
 refine Dt s (bc fun st=>?_)
 obtain rfl:st=():=rfl
 unfold oG
 refine c9 (s.toList==kE.toList||(cz (a7 s 0)||qO s)) ?_ ?_
 ·refine FU rfl fun h0 e=>?_
  have hp:=Eu h0
  refine cd (t1:=cB) (a7 s 0) (PVal.pure fun w=>mV (by kernel_rfl) (by decide) (by omega)) ?_
  refine bW (pP (a7 s 0)) (fun A hA=>nomatch hA) ?_
  refine FU e fun h1 e2=>?_
  refine bW (vF s hs) (fun A hA=>by obtain rfl:=List.mem_singleton.1 hA; exact (by repeat (first | exact mz | apply ms))) ?_
  exact cT e2.symm
 ·refine aD (fun h=>?_) (fun h=>?_)
  ·exact bI (by unfold pN; rw [show (s.toList==kE.toList||(cz (a7 s 0)||qO s))=true from h]; rfl)
  ·have hn:pN s=(List.range s.size).all fun i=>dp (a7 s i)||cz (a7 s i):=by
    unfold pN; rw [show (s.toList==kE.toList||(cz (a7 s 0)||qO s))=false from h]; rfl
   rw [hn]
   refine fU (ts:=[.b (.int .i64)]) s.size (fun i=>((i:Int),())) (fun i L'=>Fact.prop (L'=[]∧((List.range i).all fun i=>dp (a7 s i)||cz (a7 s i))=true)) rfl (fun F hF=>⟨rfl,rfl⟩) fun i L' Δ' hi hΔ out=>?_
   refine br fun F0 hx=>?_
   obtain ⟨rfl,hall⟩:=hx
   refine aD (fun h3=>?_) (fun h3=>?_)
   ·have hi':i < s.size:=by have h3:(i:Int) < (s.size:Int):=of_decide_eq_true h3; omega
    have hout:(dp (a7 s i)||cz (a7 s i))=true→au PG (I0:av ε Unit) tB (pl aJ) Δ' none () (.out 0 [.int .i64 (IntKind.i64.wrap ((i:Int)+1))]) ((Pure.pure ((List.range s.size).all fun i=>dp (a7 s i)||cz (a7 s i)):Sp ε Unit Bool) ()) [] [MxF]:=fun hc =>
     out hi' (by show [Value.int .i64 (IntKind.i64.wrap ((i:Int)+1))]=[Value.int .i64 ((i+1:Nat):Int)]; rw [aS (by omega) (by omega)]; rfl) fun F hF=>⟨rfl,by
      rw [List.range_succ,List.all_append,hall]
      show (true&&([i].all _))=true
      rw [List.all_cons,hc]; rfl⟩
    refine cd (t1:=cB) (a7 s i) (PVal.pure fun w=>mV (by kernel_rfl) (by show (0:Int)≤(i:Int); omega) (by show (i:Int) < _; omega)) ?_
    refine bW (qG (a7 s i)) (fun A hA=>nomatch hA) ?_
    refine aD (fun h4=>?_) (fun h4=>?_)
    ·have h4':dp (a7 s i)=false:=fQ h4
     refine cd (t1:=cB) (a7 s i) (PVal.pure fun w=>mV (by kernel_rfl) (by show (0:Int)≤(i:Int); omega) (by show (i:Int) < _; omega)) ?_
     refine bW (pP (a7 s i)) (fun A hA=>nomatch hA) ?_
     refine aD (fun h5=>?_) (fun h5=>?_)
     ·have h5':cz (a7 s i)=false:=fQ h5
      refine bI ?_
      symm
      exact List.all_eq_false.2 ⟨i,List.mem_range.2 hi',by rw [h4',h5']; decide⟩
     ·exact hout (by rw [show cz (a7 s i)=true from eO h5,Bool.or_true])
    ·exact hout (by rw [show dp (a7 s i)=true from eO h4,Bool.true_or])
   ·have hi':i=s.size:=by have h3:¬ (i:Int) < (s.size:Int):=of_decide_eq_false h3; omega
    subst hi'
    exact bI hall.symm
def nQ (s l:ByteArray):Bool:=!(s.toList==kE.toList)&&(!(uR s k_sp)&&uR (k_sp++l++k_sp) (k_sp++s++k_sp))
theorem xf {ε:Type} (s l:ByteArray) (hs:s.size≤1048576) (hl:l.size≤1048576):Meets PG (I0:av ε Unit) (aa ip #[.string s,.string l]) tB (Pure.pure (nQ s l)) aJ [MxF]:=by
 have h1:k_sp.size=1:=by kernel_rfl
 refine Bv s l (bc fun st=>?_)
 obtain rfl:st=():=rfl
 unfold nK
 refine aD (fun h=>?_) (fun h=>?_)
 ·have h':(s.toList==kE.toList)=false:=fQ h
  refine bW (mY s k_sp (by omega)) (fun A hA=>hA) ?_
  refine aD (fun h2=>?_) (fun h2=>?_)
  ·have h2':uR s k_sp=false:=fQ h2
   refine cd (t1:=tS) (k_sp++l) (PVal.pure fun w=>ep _ _ (by omega)) ?_
   refine cd (t1:=tS) (k_sp++l++k_sp) (PVal.pure fun w=>ep _ _ (by simp; omega)) ?_
   refine cd (t1:=tS) (k_sp++s) (PVal.pure fun w=>ep _ _ (by omega)) ?_
   refine cd (t1:=tS) (k_sp++s++k_sp) (PVal.pure fun w=>ep _ _ (by simp; omega)) ?_
   refine bW (mY (k_sp++l++k_sp) (k_sp++s++k_sp) (by simp; omega)) (fun A hA=>hA) ?_
   exact bI (by unfold nQ; rw [h',h2']; rfl)
  ·have h2':uR s k_sp=true:=eO h2
   exact bI (by unfold nQ; rw [h2',Bool.not_true,Bool.false_and,Bool.and_false])
 ·have h':(s.toList==kE.toList)=true:=eO h
  exact bI (by unfold nQ; rw [h']; rfl)
theorem tD (sep:ByteArray) (save:Nat):∀ (k:Nat) (s x:ByteArray),x∈Lib.splitB sep save k s→x.size≤s.size
 | 0,s,x,h=>by
  rw [Lib.splitB_zero] at h
  obtain rfl:=List.mem_singleton.1 h
  exact Nat.le_refl _
 | k+1,s,x,h=>by
  unfold Lib.splitB at h
  split at h
  ·obtain rfl:=List.mem_singleton.1 h
   exact Nat.le_refl _
  ·rcases List.mem_cons.1 h with rfl | h
   ·rw [ByteArray.size_extract]; omega
   ·have:=tD sep save k _ x h
    rw [ByteArray.size_extract] at this
    omega
def gP (s sep:ByteArray):List ByteArray:=Lib.splitB sep 0 (Lib.countB s sep) s
theorem GO {ε:Type} (s sep:ByteArray) (hs:s.size < 4294967281) (h1:1≤sep.size):Meets PG (I0:av ε Unit) (aa ov #[.string s,.string sep]) ah (Pure.pure ()) (fun _ x=>Rw 1 BV x (gP s sep)) [MxF]:=by
 intro r w F H st res hres hΓ hi hsp
 rw [eg Tryz.func170 rfl rfl]
 have hs':res=.ok () st:=(Option.some.inj hres).symm
 subst hs'
 obtain ⟨m,hm⟩:=MxF.cell (hΓ MxF (List.mem_cons_self ..)) hsp.stab
 refine Calls.mono (Tryz.strings_Split s sep m w hs hm h1) fun e w' he=>?_
 obtain ⟨rfl,rfl⟩:=he
 have hle:=hsp.new_le (.cells ((Lib.splitB sep 0 (Lib.countB s sep) s).map Value.string).toArray 9)
 refine ⟨_,hle,H,[],(some ⟨w.heap.size,0,none⟩,Lib.countB s sep+1,Lib.countB s sep+1),rfl,hi,by simpa using hsp.newF (.cells ((Lib.splitB sep 0 (Lib.countB s sep) s).map Value.string).toArray 9),rfl,?_⟩
 refine ⟨(Lib.splitB_all sep h1 0 _ s rfl).symm,.inr ⟨⟨w.heap.size,0,none⟩,((Lib.splitB sep 0 (Lib.countB s sep) s).map Value.string).toArray,9,(0,0),rfl,rfl,by simp [Heap.ins],fun i y hy j hj=>?_⟩⟩
 obtain rfl:j=0:=by omega
 rw [List.getElem?_toArray,List.getElem?_map]
 rw [show 0+i * 1+0=i by omega]
 rw [show (Lib.splitB sep 0 (Lib.countB s sep) s)[i]? = some y from hy]
 rfl
def FI (s:ByteArray):Bool:=(s.toList==knull.toList||(s.toList==kundefined.toList||(s.toList==ktrue.toList||s.toList==kfalse.toList)))||(gP s k_dot).all pN
theorem In {ε:Type} (s:ByteArray) (hs:s.size≤1048576):Meets PG (I0:av ε Unit) (aa oz #[.string s]) tB (Pure.pure (FI s)) aJ [MxF]:=by
 refine DD s (bc fun st=>?_)
 obtain rfl:st=():=rfl
 unfold oP
 refine c9 (s.toList==knull.toList||(s.toList==kundefined.toList||(s.toList==ktrue.toList||s.toList==kfalse.toList))) (bO rfl fun e=>bO e fun e=>bO e fun e=>cT e.symm) ?_
 refine aD (fun h=>?_) (fun h=>?_)
 ·exact bI (by unfold FI; rw [show (s.toList==knull.toList||(s.toList==kundefined.toList||(s.toList==ktrue.toList||s.toList==kfalse.toList)))=true from h]; rfl)
 have hp:FI s=(gP s k_dot).all pN:=by
  unfold FI; rw [show (s.toList==knull.toList||(s.toList==kundefined.toList||(s.toList==ktrue.toList||s.toList==kfalse.toList)))=false from h]; rfl
 rw [hp]
 refine i1 (GO s k_dot (by omega) (Nat.le_of_eq (show 1=k_dot.size by kernel_rfl))) (fun A hA=>hA) fun x K=>?_
 refine n7 fun hK=>?_
 subst hK
 refine vW (n:=1) (f:=BV) (x:=x) (l:=gP s k_dot) (List.mem_cons_self ..) fun hl=>?_
 have hlen:(gP s k_dot).length≤1048577:=by
  have h1:=Lib.splitB_all k_dot (Nat.le_of_eq (show 1=k_dot.size by kernel_rfl)) 0 _ s rfl
  have h2:=Lib.countB_le k_dot (Nat.le_of_eq (show 1=k_dot.size by kernel_rfl)) s.size s (Nat.le_refl _)
  unfold gP
  omega
 refine fU (ts:=[.b (.int .i64)]) (gP s k_dot).length (fun i=>((i:Int),())) (fun i L'=>Fact.prop (L'=[]∧((gP s k_dot).take i).all pN=true)) rfl (fun F hF=>⟨rfl,rfl⟩) fun i L' Δ' hi hΔ out=>?_
 refine br fun F0 hx=>?_
 obtain ⟨rfl,hall⟩:=hx
 refine aD (fun h3=>?_) (fun h3=>?_)
 ·have hi':i < (gP s k_dot).length:=by have h3:(i:Int) < (x.2.1:Int):=of_decide_eq_true h3; omega
  refine Co (n:=1) (f:=BV) (l:=gP s k_dot) (b1:=.str) (by repeat (first | exact mz | apply ms)) (by kernel_rfl) (by decide) (by kernel_rfl) i rfl (List.getElem?_eq_getElem hi') (gP s k_dot)[i] rfl ?_
  have hsz:=tD k_dot 0 _ s _ (show (gP s k_dot)[i]∈gP s k_dot from List.getElem_mem hi')
  refine bW (pu (gP s k_dot)[i] (by omega)) (fun A hA=>by obtain rfl:=List.mem_singleton.1 hA; exact (by repeat (first | exact mz | apply ms))) ?_
  refine aD (fun h4=>?_) (fun h4=>?_)
  ·have h4':pN (gP s k_dot)[i]=false:=fQ h4
   refine bI ?_
   symm
   exact List.all_eq_false.2 ⟨_,List.getElem_mem hi',by rw [h4']; decide⟩
  ·have h4':pN (gP s k_dot)[i]=true:=eO h4
   refine out hi' ?_ fun F hF=>⟨rfl,?_⟩
   ·show [Value.int .i64 (IntKind.i64.wrap ((i:Int)+1))]=[Value.int .i64 ((i+1:Nat):Int)]
    rw [aS (by omega) (by omega)]; rfl
   ·rw [List.take_add_one,List.getElem?_eq_getElem hi',List.all_append,hall]
    show (true&&([(gP s k_dot)[i]].all _))=true
    rw [List.all_cons,h4']; rfl
 ·have hi':i=(gP s k_dot).length:=by have h3:¬ (i:Int) < (x.2.1:Int):=of_decide_eq_false h3; omega
  rw [hi',List.take_length] at hall
  exact bI hall.symm
end Go.Proofs.YtjlgcpgjdgeejaaGreatDoor
end

section
namespace Go.Proofs.YtjlgcpgjdgeejaaGreatDoor
open Go
set_option linter.unusedVariables false
set_option linter.constructorNameAsVariable false
set_option maxRecDepth 100000
def vE (k:Int) (s:ByteArray) (n:Int):Bool :=
 (bif ((k:Int)==10) then (bif (s.toList==kE.toList) then (bif (decide ((n:Int)≥0)) then ((decide ((n:Int)≤9007199254740991)))
 else (false))
 else (false))
 else (bif ((k:Int)==81) then (bif (s.toList==kE.toList) then (bif (decide ((n:Int)≥(-9007199254740991))) then ((decide ((n:Int)≤9007199254740991)))
 else (false))
 else (false))
 else (bif (((k:Int)==11)||((k:Int)==82)) then (bif ((n:Int)==0) then ((EM s))
 else (false))
 else (bif ((k:Int)==23) then (bif ((n:Int)==0) then ((nQ s dw))
 else (false))
 else (bif ((k:Int)==24) then (bif ((n:Int)==0) then ((nQ s yx))
 else (false))
 else (bif ((k:Int)==26) then (bif ((n:Int)==0) then ((nQ s uC))
 else (false))
 else (bif ((k:Int)==80) then (bif ((n:Int)==0) then ((FI s))
 else (false))
 else (bif (((k:Int)==40)||(((k:Int)==56)||(((k:Int)==47)||((k:Int)==85)))) then (bif (((Int.fdiv n (2 ^ min (1:Int).toNat IntKind.i64.bits)):Int)==0) then ((pN s))
 else (false))
 else (bif ((k:Int)==44) then (bif (((iE n 4):Int)==0) then ((pN s))
 else (false))
 else (bif ((k:Int)==66) then (bif (((iE n 7):Int)==0) then ((pN s))
 else (false))
 else (bif (((k:Int)==17)||(((k:Int)==21)||(((k:Int)==29)||(((k:Int)==32)||(((k:Int)==41)||(((k:Int)==42)||(((k:Int)==43)||(((k:Int)==45)||(((k:Int)==48)||(((k:Int)==49)||(((k:Int)==51)||(((k:Int)==52)||(((k:Int)==62)||((k:Int)==67)))))))))))))) then (bif ((n:Int)==0) then ((pN s))
 else (false))
 else (bif ((n:Int)==0) then ((s.toList==kE.toList))
 else (false)))))))))))))
set_option maxHeartbeats 4000000 in
theorem Je {ε:Type} (e:E) (hs:e.f.text.size≤1048576):Meets PG (I0:av ε Unit) (aa oL #[.agg #[.int .i64 e.f.kind,.string e.f.text,.int .i64 e.f.num,.slice e.ks.1 e.ks.2.1 e.ks.2.2,.int .i64 e.f.pos]]) tB (Pure.pure (vE e.f.kind e.f.text e.f.num)) aJ [MxF]:=by
 refine DH (e.f.kind,e.f.text,e.f.num,e.ks,e.f.pos,()) (bc fun st=>?_)
 obtain rfl:st=():=rfl
 unfold oX vE
 refine sH _ fun b=>cA (A:=o0 b e) (fun F hF=>hF _ (List.mem_cons_self ..)) ?_
 refine bK (b:=b) (b1:=.int .i64) e.f.num (by repeat (first | exact mz | apply ms)) (by kernel_rfl) rfl ?_
 refine bK (b:=b) (b1:=.int .i64) e.f.kind (by repeat (first | exact mz | apply ms)) (by kernel_rfl) rfl ?_
 refine bm ?_ ?_
 ·refine bK (b:=b) (b1:=.str) e.f.text (by repeat (first | exact mz | apply ms)) (by kernel_rfl) rfl ?_
  refine bm ?_ ?_
  ·refine bK (b:=b) (b1:=.int .i64) e.f.num (by repeat (first | exact mz | apply ms)) (by kernel_rfl) rfl ?_
   refine bm ?_ ?_
   ·refine bK (b:=b) (b1:=.int .i64) e.f.num (by repeat (first | exact mz | apply ms)) (by kernel_rfl) rfl ?_
    exact bI rfl
   exact bI rfl
  exact bI rfl
 refine bm ?_ ?_
 ·refine bK (b:=b) (b1:=.str) e.f.text (by repeat (first | exact mz | apply ms)) (by kernel_rfl) rfl ?_
  refine bm ?_ ?_
  ·refine bK (b:=b) (b1:=.int .i64) e.f.num (by repeat (first | exact mz | apply ms)) (by kernel_rfl) rfl ?_
   refine bm ?_ ?_
   ·refine bK (b:=b) (b1:=.int .i64) e.f.num (by repeat (first | exact mz | apply ms)) (by kernel_rfl) rfl ?_
    exact bI rfl
   exact bI rfl
  exact bI rfl
 refine c9 (((e.f.kind:Int)==11)||((e.f.kind:Int)==82)) (bO rfl fun e=>cT e.symm) ?_
 refine bm ?_ ?_
 ·refine bm ?_ ?_
  ·refine bK (b:=b) (b1:=.str) e.f.text (by repeat (first | exact mz | apply ms)) (by kernel_rfl) rfl ?_
   refine bW (JR e.f.text hs) (fun A hA=>nomatch hA) ?_
   exact bI rfl
  exact bI rfl
 refine bm ?_ ?_
 ·refine bm ?_ ?_
  ·refine bK (b:=b) (b1:=.str) e.f.text (by repeat (first | exact mz | apply ms)) (by kernel_rfl) rfl ?_
   refine bW (xf e.f.text dw hs (by decide)) (fun A hA=>by obtain rfl:=List.mem_singleton.1 hA; exact (by repeat (first | exact mz | apply ms))) ?_
   exact bI rfl
  exact bI rfl
 refine bm ?_ ?_
 ·refine bm ?_ ?_
  ·refine bK (b:=b) (b1:=.str) e.f.text (by repeat (first | exact mz | apply ms)) (by kernel_rfl) rfl ?_
   refine bW (xf e.f.text yx hs (by decide)) (fun A hA=>by obtain rfl:=List.mem_singleton.1 hA; exact (by repeat (first | exact mz | apply ms))) ?_
   exact bI rfl
  exact bI rfl
 refine bm ?_ ?_
 ·refine bm ?_ ?_
  ·refine bK (b:=b) (b1:=.str) e.f.text (by repeat (first | exact mz | apply ms)) (by kernel_rfl) rfl ?_
   refine bW (xf e.f.text uC hs (by decide)) (fun A hA=>by obtain rfl:=List.mem_singleton.1 hA; exact (by repeat (first | exact mz | apply ms))) ?_
   exact bI rfl
  exact bI rfl
 refine bm ?_ ?_
 ·refine bm ?_ ?_
  ·refine bK (b:=b) (b1:=.str) e.f.text (by repeat (first | exact mz | apply ms)) (by kernel_rfl) rfl ?_
   refine bW (In e.f.text hs) (fun A hA=>by obtain rfl:=List.mem_singleton.1 hA; exact (by repeat (first | exact mz | apply ms))) ?_
   exact bI rfl
  exact bI rfl
 refine c9 (((e.f.kind:Int)==40)||(((e.f.kind:Int)==56)||(((e.f.kind:Int)==47)||((e.f.kind:Int)==85)))) (bO rfl fun e=>bO e fun e=>bO e fun e=>cT e.symm) ?_
 refine bm ?_ ?_
 ·refine bK (b:=b) (b1:=.int .i64) e.f.num (by repeat (first | exact mz | apply ms)) (by kernel_rfl) rfl ?_
  refine cd (t1:=tI) (Int.fdiv e.f.num (2 ^ min (1:Int).toNat IntKind.i64.bits)) (PVal.pure fun w=>pq _ _ (by decide) w) ?_
  refine bm ?_ ?_
  ·refine bK (b:=b) (b1:=.str) e.f.text (by repeat (first | exact mz | apply ms)) (by kernel_rfl) rfl ?_
   refine bW (pu e.f.text hs) (fun A hA=>by obtain rfl:=List.mem_singleton.1 hA; exact (by repeat (first | exact mz | apply ms))) ?_
   exact bI rfl
  exact bI rfl
 refine bm ?_ ?_
 ·refine bK (b:=b) (b1:=.int .i64) e.f.num (by repeat (first | exact mz | apply ms)) (by kernel_rfl) rfl ?_
  refine cd (t1:=tI) (iE e.f.num 4) (PVal.pure fun w=>qm _ _ w) ?_
  refine bm ?_ ?_
  ·refine bK (b:=b) (b1:=.str) e.f.text (by repeat (first | exact mz | apply ms)) (by kernel_rfl) rfl ?_
   refine bW (pu e.f.text hs) (fun A hA=>by obtain rfl:=List.mem_singleton.1 hA; exact (by repeat (first | exact mz | apply ms))) ?_
   exact bI rfl
  exact bI rfl
 refine bm ?_ ?_
 ·refine bK (b:=b) (b1:=.int .i64) e.f.num (by repeat (first | exact mz | apply ms)) (by kernel_rfl) rfl ?_
  refine cd (t1:=tI) (iE e.f.num 7) (PVal.pure fun w=>qm _ _ w) ?_
  refine bm ?_ ?_
  ·refine bK (b:=b) (b1:=.str) e.f.text (by repeat (first | exact mz | apply ms)) (by kernel_rfl) rfl ?_
   refine bW (pu e.f.text hs) (fun A hA=>by obtain rfl:=List.mem_singleton.1 hA; exact (by repeat (first | exact mz | apply ms))) ?_
   exact bI rfl
  exact bI rfl
 refine c9 (((e.f.kind:Int)==17)||(((e.f.kind:Int)==21)||(((e.f.kind:Int)==29)||(((e.f.kind:Int)==32)||(((e.f.kind:Int)==41)||(((e.f.kind:Int)==42)||(((e.f.kind:Int)==43)||(((e.f.kind:Int)==45)||(((e.f.kind:Int)==48)||(((e.f.kind:Int)==49)||(((e.f.kind:Int)==51)||(((e.f.kind:Int)==52)||(((e.f.kind:Int)==62)||((e.f.kind:Int)==67)))))))))))))) (bO rfl fun e=>bO e fun e=>bO e fun e=>bO e fun e=>bO e fun e=>bO e fun e=>bO e fun e=>bO e fun e=>bO e fun e=>bO e fun e=>bO e fun e=>bO e fun e=>bO e fun e=>cT e.symm) ?_
 refine bm ?_ ?_
 ·refine bm ?_ ?_
  ·refine bK (b:=b) (b1:=.str) e.f.text (by repeat (first | exact mz | apply ms)) (by kernel_rfl) rfl ?_
   refine bW (pu e.f.text hs) (fun A hA=>by obtain rfl:=List.mem_singleton.1 hA; exact (by repeat (first | exact mz | apply ms))) ?_
   exact bI rfl
  exact bI rfl
 refine bm ?_ ?_
 ·refine bK (b:=b) (b1:=.str) e.f.text (by repeat (first | exact mz | apply ms)) (by kernel_rfl) rfl ?_
  exact bI rfl
 exact bI rfl
end Go.Proofs.YtjlgcpgjdgeejaaGreatDoor
end

section
namespace Go.Proofs.YtjlgcpgjdgeejaaGreatDoor
open Go
set_option linter.unusedSimpArgs false
set_option linter.unusedVariables false
set_option linter.constructorNameAsVariable false
set_option maxRecDepth 100000
def inB (ns:List FN) (k:Int):Bool:=decide (0≤k)&&decide (k < ns.length)
def da (ns:List FN) (k:Int):Int:=match ns[k.toNat]? with
 | some y=>y.kind
 | none=>0
def uq (ns:List FN) (x:FN):Bool:=(List.range x.kids.length).all fun i=>if i % 2=0 then da ns (x.kids.getD i 0)==11 else iH (da ns (x.kids.getD i 0))
def qd (ns:List FN) (ps:List Pl) (ks:List Int):Bool:=(List.range ks.length).all fun i=>match ps[min i (ps.length - 1)]? with
 | some p=>dK ns (eI ns p) (ks.getD i 0)
 | none=>false
def uO (ns:List FN) (x:FN):Bool:=x.kind != 61||(da ns (x.kids.getD 1 0) != 1||da ns (x.kids.getD 2 0) != 1)
def A5 (ns:List FN) (x:FN):Bool:=((cM x.kind).2.2&&((cM x.kind).2.1||(cM x.kind).1.length==x.kids.length))&&(qd ns (cM x.kind).1 x.kids&&uO ns x)
def mT (ns:List FN) (x:FN):Bool:=bif x.kind==12 then uq ns x&&x.kids.length % 2==1 else bif x.kind==87 then decide (1 < x.kids.length)&&!(x.kids.any fun k=>!gI (da ns k)) else A5 ns x
def gQ (ns:List FN) (x:FN):Bool:=vE x.kind x.text x.num&&(x.kids.all (inB ns)&&mT ns x)
theorem DC {ε:Type} (x:aI) (l:List Int) (hl:l.length≤1099511627776) (fv:Value) (p:Int→Bool) (Γ0:List Fact) (hp:∀ k∈l,Meets PG (I0:av ε Unit) (aK fv #[.int .i64 k]) tB (Pure.pure (p k)) aJ Γ0) :
  Meets PG (I0:av ε Unit) (aa eB #[.slice x.1 x.2.1 x.2.2,fv]) tI (Pure.pure (match l.findIdx? p with | some i=>(i:Int) | none=>-1)) aJ (Rw 1 bS x l::Γ0):=by
 refine mK x fv (bc fun st=>?_)
 obtain rfl:st=():=rfl
 unfold ew
 refine vW (n:=1) (f:=bS) (x:=x) (l:=l) (List.mem_cons_self ..) fun hxl=>?_
 refine fU (ts:=[.b (.int .i64)]) l.length (fun i=>((i:Int),())) (fun i L'=>Fact.prop (L'=[]∧∀ j (hj:j < l.length),j < i→p l[j]=false)) rfl (fun F hF=>⟨rfl,fun j _ hj=>absurd hj (by omega)⟩) fun i L' Δ' hi hΔ out=>?_
 refine br fun F0 hx=>?_
 obtain ⟨rfl,hno⟩:=hx
 refine aD (fun h=>?_) (fun h=>?_)
 ·have hi':i < l.length:=by have h':(i:Int) < (x.2.1:Int):=of_decide_eq_true h; omega
  refine li i (List.mem_cons_self ..) rfl hi' ?_
  refine bW (hp l[i] (List.getElem_mem hi')) (fun A hA=>List.mem_cons_of_mem _ hA) ?_
  refine aD (fun h2=>?_) (fun h2=>?_)
  ·have h2':p l[i]=true:=h2
   have hf:l.findIdx? p=some i:=List.findIdx?_eq_some_iff_getElem.2 ⟨hi',h2',fun j hj=>by rw [hno j (by omega) hj]; decide⟩
   rw [hf]
   exact eF (t:=tI) (i:Int) rfl rfl
  ·have h2':p l[i]=false:=h2
   refine out hi' ?_ fun F hF=>⟨rfl,fun j hj hji=>?_⟩
   ·show [Value.int .i64 (IntKind.i64.wrap ((i:Int)+1))]=[Value.int .i64 ((i+1:Nat):Int)]
    rw [aS (by omega) (by omega)]; rfl
   ·rcases Nat.lt_or_ge j i with h | h
    ·exact hno j hj h
    ·obtain rfl:j=i:=by omega
     exact h2'
 ·have hi':¬ i < l.length:=by have h':¬ (i:Int) < (x.2.1:Int):=of_decide_eq_false h; omega
  have hf:l.findIdx? p=none:=List.findIdx?_eq_none_iff.2 fun y hy=>by
   obtain ⟨j,hj,rfl⟩:=List.mem_iff_getElem.1 hy
   exact hno j hj (by omega)
  rw [hf]
  exact eF (t:=tI) (-1:Int) rfl rfl
theorem xS {ε:Type} (x:aI) (l:List Int) (hl:l.length≤1099511627776) (fv:Value) (p:Int→Bool) (Γ0:List Fact) (hp:∀ k∈l,Meets PG (I0:av ε Unit) (aK fv #[.int .i64 k]) tB (Pure.pure (p k)) aJ Γ0) :
  Meets PG (I0:av ε Unit) (aa dZ #[.slice x.1 x.2.1 x.2.2,fv]) tB (Pure.pure (l.any p)) aJ (Rw 1 bS x l::Γ0):=by
 refine kn x fv (bc fun st=>?_)
 obtain rfl:st=():=rfl
 unfold dY
 refine bW (DC x l hl fv p Γ0 hp) (fun A hA=>hA) ?_
 refine bI ?_
 cases hf:l.findIdx? p with
 | none =>
  have:=List.findIdx?_eq_none_iff.1 hf
  symm
  show l.any p=false
  exact List.any_eq_false.2 fun y hy=>by rw [this y hy]; decide
 | some i =>
  obtain ⟨hi,h1,_⟩:=List.findIdx?_eq_some_iff_getElem.1 hf
  rw [show l.any p=true from List.any_eq_true.2 ⟨l[i],List.getElem_mem hi,h1⟩]
  show decide ((i:Int)≥0)=true
  exact decide_eq_true (by omega)
section
variable {ε:Type} (sl:aI) (es:List E) (n:Nat) (e:E) (he:es[n]? = some e)
theorem Gm {k:Int} {j:Nat} {y:E} (hk:k=j) (hy:es[j]? = some y):da (es.map (·.f)) k=y.f.kind:=by
 unfold da
 rw [hk,Int.toNat_natCast,List.getElem?_map,hy]; rfl
theorem EC {k:Int} (h:inB (es.map (·.f)) k=true):∃ (j:Nat) (y:E),k=j∧es[j]? = some y∧da (es.map (·.f)) k=y.f.kind:=by
 unfold inB at h
 rw [Bool.and_eq_true,decide_eq_true_eq,decide_eq_true_eq,List.length_map] at h
 obtain ⟨j,y,h1,h2,h3⟩:=BG h.1 h.2
 exact ⟨j,y,h1,h2,Gm es h1 h2⟩
theorem Hj (b:Nat) (k:Int) (hk:inB (es.map (·.f)) k=true):Meets PG (I0:av ε Unit) (aK (aT fq #[.pointer (some ⟨b,0,none⟩)]) #[.int .i64 k]) tB (Pure.pure (!gI (da (es.map (·.f)) k))) aJ [gr b sl,cI sl es]:=by
 obtain ⟨j,y,h1,h2,h3⟩:=EC es hk
 rw [h3,h1]
 intro r w F H st res hs hΓ hi hsp
 have e1:(aK (aT fq #[.pointer (some ⟨b,0,none⟩)]) #[.int .i64 (j:Int)]).run PG w=(aa fq #[.int .i64 (j:Int),.pointer (some ⟨b,0,none⟩)]).run PG w:=by unfold aT; rw [eS]; rfl
 rw [e1]
 refine (zG (j:Int) ⟨b,0,none⟩ (bc fun st=>?_):MeetsO PG (I0:av ε Unit) _ tB (Pure.pure (!gI y.f.kind)) (pl aJ) [gr b sl,cI sl es]) r w F H st res hs hΓ hi hsp
 obtain rfl:st=():=rfl
 unfold lS
 refine gz (x:=sl) (List.mem_cons_self ..) ?_
 refine bW (BZ sl es j y h2) (fun A hA=>by obtain rfl:=List.mem_singleton.1 hA; exact (by repeat (first | exact mz | apply ms))) ?_
 exact bI rfl
theorem Iu (b b2:Nat) (j:Nat) (k:Int) (hk:e.f.kids[j]? = some k) (hin:inB (es.map (·.f)) k=true):Meets PG (I0:av ε Unit) (aK (aT eC #[.pointer (some ⟨b,0,none⟩),.pointer (some ⟨b2,0,none⟩)]) #[.int .i64 j]) tI (Pure.pure (da (es.map (·.f)) k)) aJ [gr b sl,o0 b2 e,Rw 1 bS e.ks e.f.kids,cI sl es]:=by
 obtain ⟨m,y,h1,h2,h3⟩:=EC es hin
 rw [h3]
 subst h1
 intro r w F H st res hs hΓ hi hsp
 have e1:(aK (aT eC #[.pointer (some ⟨b,0,none⟩),.pointer (some ⟨b2,0,none⟩)]) #[.int .i64 j]).run PG w=(aa eC #[.int .i64 j,.pointer (some ⟨b,0,none⟩),.pointer (some ⟨b2,0,none⟩)]).run PG w:=by unfold aT; rw [eS]; rfl
 rw [e1]
 refine (zC (j:Int) ⟨b,0,none⟩ ⟨b2,0,none⟩ (bc fun st=>?_):MeetsO PG (I0:av ε Unit) _ tI (Pure.pure y.f.kind) (pl aJ) [gr b sl,o0 b2 e,Rw 1 bS e.ks e.f.kids,cI sl es]) r w F H st res hs hΓ hi hsp
 obtain rfl:st=():=rfl
 unfold mm
 refine cA (A:=Rw 5 dJ sl es) (pD (by repeat (first | exact mz | apply ms))) ?_
 refine dv [] (fun _ h=>nomatch h) (Fq (x:=sl) (by repeat (first | exact mz | apply ms)) ?_)
 refine hY (b1:=.slice) (b:=b2) (e:=e) e.ks (by repeat (first | exact mz | apply ms)) (by kernel_rfl) rfl ?_
 refine Ba (n:=1) (f:=bS) (l:=e.f.kids) (b1:=.int .i64) (by repeat (first | exact mz | apply ms)) (by repeat (first | exact mz | apply ms)) (by kernel_rfl) (by decide) (by kernel_rfl) j rfl hk (m:Int) rfl ?_
 refine Ba (n:=5) (f:=dJ) (l:=es) (b1:=.int .i64) (by repeat (first | exact mz | apply ms)) (by repeat (first | exact mz | apply ms)) (by kernel_rfl) (by decide) (by kernel_rfl) m rfl h2 y.f.kind rfl ?_
 exact eF (t:=tI) y.f.kind rfl rfl
end
end Go.Proofs.YtjlgcpgjdgeejaaGreatDoor
end

section
namespace Go.Proofs.YtjlgcpgjdgeejaaGreatDoor
open Go
set_option linter.unusedSimpArgs false
set_option linter.unusedVariables false
set_option linter.constructorNameAsVariable false
set_option maxRecDepth 100000
def EE (x:aI) (vs:List Value) (ps:List Pl):Fact:=⟨fun F=>(Rw 1 (fun v=>[v]) x vs).p F∧∀ (i:Nat) (v:Value) (p:Pl),vs[i]? = some v→ps[i]? = some p→PlaceP F p v,
 fun F F' hl ⟨h1,h3⟩=>⟨(Rw 1 (fun v=>[v]) x vs).mono F F' hl h1,fun i v p a b=>(h3 i v p a b).mono hl⟩⟩
section
variable {ε σ β:Type} {I:av ε σ} {t:Ty} {Rel:β→t.den→al→Fact} {Δ:Labels ε σ β} {md:cK} {L:al} {Γ:List Fact} {st:σ} {run:Option (Res ε σ β)}
theorem Iw {x:aI} {ps:List Pl} {m:T} (hm:gg x ps∈Γ) (h:∀ vs:List Value,vs.length=ps.length→x.2.1=ps.length→au PG I t Rel Δ md st m run L (EE x vs ps::Γ)):au PG I t Rel Δ md st m run L Γ:=fun H r w F res S h1 hF=>by
 obtain ⟨vs,g1,g2,g3⟩:=(hF (gg x ps) (List.mem_cons_of_mem _ hm):∃ vs:List Value,(Rw 1 (fun v=>[v]) x vs).p F∧vs.length=ps.length∧∀ (i:Nat) (v:Value) (p:Pl),vs[i]? = some v→ps[i]? = some p→PlaceP F p v)
 exact h vs g2 (by rw [g1.1,g2]) H r w F res S h1 (Holds.cons (hF _ (List.mem_cons_self ..)) (Holds.cons ⟨g1,g3⟩ fun A hA=>hF A (List.mem_cons_of_mem _ hA)))
end
theorem qI {P:List Pl × Bool × Bool→Prop} {b:Bool} {x y:List Pl × Bool × Bool} (hx:P x) (hy:P y):P (bif b then x else y):=by cases b<;>assumption
def Fn (x:List Pl × Bool × Bool):Prop:=x.2.1=true→x.1≠[]
theorem Fs (k:Int):Fn (qQ k):=by
 unfold qQ
 repeat' first
  | (refine qI ?_ ?_)
  | exact fun h=>Bool.noConfusion h
  | exact fun _=>List.cons_ne_nil _ _
theorem Dv (k:Int):Fn (cM k):=by
 unfold cM
 repeat' first
  | exact Fs k
  | (refine qI ?_ ?_)
  | exact fun h=>Bool.noConfusion h
  | exact fun _=>List.cons_ne_nil _ _
def HL (x:List Pl × Bool × Bool):Prop:=x.1.length≤4
theorem He (k:Int):HL (qQ k):=by
 unfold qQ
 repeat' first
  | (refine qI ?_ ?_)
  | exact Nat.le_of_ble_eq_true rfl
theorem Ey (k:Int):HL (cM k):=by
 unfold cM
 repeat' first
  | exact He k
  | (refine qI ?_ ?_)
  | exact Nat.le_of_ble_eq_true rfl
theorem GJ:(cM 61).1.length=3:=by kernel_rfl
theorem Fx:(cM 61).2.1=false:=by kernel_rfl
section
variable {ε:Type} (sl:aI) (es:List E) (n:Nat) (e:E) (he:es[n]? = some e)
include he
theorem Gl:Meets PG (I0:av ε Unit) (aa lj #[.agg #[.slice sl.1 sl.2.1 sl.2.2],.int .i64 n]) tB (Pure.pure (gQ (es.map (·.f)) e.f)) aJ [cI sl es,MxF]:=by
 refine Dx (sl,()) n (bc fun st=>?_)
 obtain rfl:st=():=rfl
 unfold oQ
 have hem:=List.mem_of_getElem? he
 refine ee (x:=sl) fun b=>B6 n (List.mem_cons_self ..) (by repeat (first | exact mz | apply ms)) rfl he fun b2=>?_
 refine dd (φ:=e.ks.2.1=e.f.kids.length∧e.f.kids.length≤1099511627776∧e.f.text.size≤1048576) (fun F hF=>⟨((hF (cI sl es) (by repeat (first | exact mz | apply ms))).2.1 e hem).1,((hF (cI sl es) (by repeat (first | exact mz | apply ms))).2.2.2 e hem).1,((hF (cI sl es) (by repeat (first | exact mz | apply ms))).2.2.2 e hem).2⟩) fun ⟨hkl,hkb,htx⟩=>?_
 refine cA (A:=Rw 1 bS e.ks e.f.kids) (fun F hF=>(hF (cI sl es) (by repeat (first | exact mz | apply ms))).2.1 e hem) ?_
 refine If (bs:=Jb) (b:=b2) (l:=dJ e) (o:=0) (T0:=bz) (e.f.kind,e.f.text,e.f.num,e.ks,e.f.pos,()) (by repeat (first | exact mz | apply ms)) (by kernel_rfl) rfl ?_
 refine bW (Je e htx) (fun A hA=>by obtain rfl:=List.mem_singleton.1 hA; exact (by repeat (first | exact mz | apply ms))) ?_
 generalize hns:es.map (·.f)=ns
 have bad:∀ {Δ:Labels ε Unit Bool} {md:cK} {Γ:List Fact},gQ ns e.f=false→au PG (I0:av ε Unit) tB (pl aJ) Δ md () (.ret #[.v (.bool false)]) ((Pure.pure (gQ ns e.f):Sp ε Unit Bool) ()) [] Γ:=fun h=>bI h.symm
 refine aD (fun h1=>?_) (fun h1=>?_)
 ·exact bad (by unfold gQ; rw [show vE e.f.kind e.f.text e.f.num=false from fQ h1]; rfl)
 have h1':vE e.f.kind e.f.text e.f.num=true:=eO h1
 have hlen:ns.length=es.length:=by rw [← hns,List.length_map]
 refine bK (b:=b2) (b1:=.slice) e.ks (by repeat (first | exact mz | apply ms)) (by kernel_rfl) rfl ?_
 refine eo (δ:=Unit) (ts:=[]) (fun _=>()) (fun _ L'=>Fact.prop (L'=[]∧e.f.kids.all (inB ns)=true)) (fun _ _=>(Pure.pure (gQ ns e.f):Sp ε Unit Bool) ()) ?_ ?_
 ·refine fU (ts:=[.b (.int .i64)]) e.f.kids.length (fun i=>((i:Int),())) (fun i L'=>Fact.prop (L'=[]∧(e.f.kids.take i).all (inB ns)=true)) rfl (fun F hF=>⟨rfl,rfl⟩) fun i L' Δ' hi hΔ out=>?_
  refine br fun F0 hx=>?_
  obtain ⟨rfl,hall⟩:=hx
  refine aD (fun h=>?_) (fun h=>?_)
  ·have hi':i < e.f.kids.length:=by have h':(i:Int) < (e.ks.2.1:Int):=of_decide_eq_true h; omega
   refine li i (by repeat (first | exact mz | apply ms)) rfl hi' (gz (b:=b) (x:=sl) (by repeat (first | exact mz | apply ms)) ?_)
   refine bW (qN sl es e.f.kids[i]) (fun A hA=>by obtain rfl:=List.mem_singleton.1 hA; exact (by repeat (first | exact mz | apply ms))) ?_
   have hw:(decide (0≤e.f.kids[i])&&decide (e.f.kids[i] < (es.length:Int)))=inB ns e.f.kids[i]:=by unfold inB; rw [hlen]
   rw [hw]
   refine aD (fun h2=>?_) (fun h2=>?_)
   ·refine bad ?_
    have:e.f.kids.all (inB ns)=false:=List.all_eq_false.2 ⟨_,List.getElem_mem hi',by rw [fQ h2]; decide⟩
    unfold gQ; rw [this,Bool.false_and,Bool.and_false]
   ·refine out hi' ?_ fun F hF=>⟨rfl,?_⟩
    ·show [Value.int .i64 (IntKind.i64.wrap ((i:Int)+1))]=[Value.int .i64 ((i+1:Nat):Int)]
     rw [aS (by omega) (by omega)]; rfl
    ·rw [List.take_add_one,List.getElem?_eq_getElem hi',List.all_append,hall]
     show (true&&([e.f.kids[i]].all _))=true
     rw [List.all_cons,eO h2]; rfl
  ·have hi':i=e.f.kids.length:=by have h':¬ (i:Int) < (e.ks.2.1:Int):=of_decide_eq_false h; omega
   rw [hi',List.take_length] at hall
   exact fy () ((hΔ 0 (by decide)).trans cn) rfl rfl fun F hF=>⟨rfl,hall⟩
 rintro ⟨⟩ L' ⟨⟩
 refine br fun F0 hx=>?_
 obtain ⟨rfl,hin⟩:=hx
 have hkin:∀ i (hi:i < e.f.kids.length),∃ (j:Nat) (y:E),e.f.kids[i]=j∧es[j]? = some y∧da ns e.f.kids[i]=y.f.kind:=fun i hi=>by
  have:=List.all_eq_true.1 hin _ (List.getElem_mem hi)
  rw [← hns] at this ⊢
  exact EC es this
 have hgd:∀ i (hi:i < e.f.kids.length),e.f.kids.getD i 0=e.f.kids[i]:=fun i hi=>by rw [List.getD_eq_getElem?_getD,List.getElem?_eq_getElem hi]; rfl
 have hf2:gQ ns e.f=mT ns e.f:=by unfold gQ; rw [h1',hin]; rfl
 rw [hf2] at bad ⊢
 clear hf2
 refine bK (b:=b2) (b1:=.int .i64) e.f.kind (by repeat (first | exact mz | apply ms)) (by kernel_rfl) rfl ?_
 refine eo (δ:=Unit) (ts:=[]) (fun _=>()) (fun _ L'=>Fact.prop (L'=[]∧mT ns e.f=A5 ns e.f)) (fun _ _=>(Pure.pure (mT ns e.f):Sp ε Unit Bool) ()) ?_ ?_
 ·refine aD (fun h2=>?_) (fun h2=>?_)
  ·-- the fields of an object
   have hf:mT ns e.f=(uq ns e.f&&e.f.kids.length % 2==1):=by unfold mT; rw [show (e.f.kind==12)=true from h2]; rfl
   rw [hf] at bad ⊢
   refine bK (b:=b2) (b1:=.slice) e.ks (by repeat (first | exact mz | apply ms)) (by kernel_rfl) rfl ?_
   refine eo (δ:=Unit) (ts:=[]) (fun _=>()) (fun _ L'=>Fact.prop (L'=[]∧uq ns e.f=true)) (fun _ _=>(Pure.pure (uq ns e.f&&e.f.kids.length % 2==1):Sp ε Unit Bool) ()) ?_ ?_
   ·refine fU (ts:=[.b (.int .i64)]) e.f.kids.length (fun i=>((i:Int),())) (fun i L'=>Fact.prop (L'=[]∧((List.range i).all fun i=>if i % 2=0 then da ns (e.f.kids.getD i 0)==11 else iH (da ns (e.f.kids.getD i 0)))=true)) rfl (fun F hF=>⟨rfl,rfl⟩) fun i L' Δ' hi hΔ out=>?_
    refine br fun F0 hx=>?_
    obtain ⟨rfl,hall⟩:=hx
    refine aD (fun h=>?_) (fun h=>?_)
    ·have hi':i < e.f.kids.length:=by have h':(i:Int) < (e.ks.2.1:Int):=of_decide_eq_true h; omega
     have hno:(if i % 2=0 then da ns e.f.kids[i]==11 else iH (da ns e.f.kids[i]))=false→(uq ns e.f&&e.f.kids.length % 2==1)=false:=fun hc=>by
      have:uq ns e.f=false:=List.all_eq_false.2 ⟨i,List.mem_range.2 hi',by rw [hgd i hi',hc]; decide⟩
      rw [this]; rfl
     have hgo:∀ {md:cK} {Γ:List Fact},(if i % 2=0 then da ns e.f.kids[i]==11 else iH (da ns e.f.kids[i]))=true→au PG (I0:av ε Unit) tB (pl aJ) Δ' md () (.out 2 [.int .i64 (IntKind.i64.wrap ((i:Int)+1))]) ((Pure.pure (uq ns e.f&&e.f.kids.length % 2==1):Sp ε Unit Bool) ()) [] Γ:=fun hc =>
      out hi' (by show [Value.int .i64 (IntKind.i64.wrap ((i:Int)+1))]=[Value.int .i64 ((i+1:Nat):Int)]; rw [aS (by omega) (by omega)]; rfl) fun F hF=>⟨rfl,by
       rw [List.range_succ,List.all_append,hall]
       show (true&&([i].all _))=true
       rw [List.all_cons,hgd i hi',hc]; rfl⟩
     obtain ⟨j,y,hj,hy,hk⟩:=hkin i hi'
     have hrem:((i:Int).tmod 2)=((i % 2:Nat):Int):=by rw [Int.tmod_eq_emod_of_nonneg (by omega)]; omega
     refine li i (by repeat (first | exact mz | apply ms)) rfl hi' ?_
     refine cd (t1:=tI) ((i % 2:Nat):Int) (PVal.pure fun w=>by rw [← hrem]; exact sX (i:Int) 2 (by decide) w) ?_
     refine aD (fun h3=>?_) (fun h3=>?_)
     ·have h3':i % 2=0:=by have h:((i % 2:Nat):Int)=0:=eq_of_beq h3; omega
      rw [if_pos h3'] at hno hgo
      rw [hj]
      refine iZ (b:=b) j (by repeat (first | exact mz | apply ms)) (by repeat (first | exact mz | apply ms)) rfl hy ?_
      refine aD (fun h4=>?_) (fun h4=>?_)
      ·exact bad (hno (by rw [hk]; exact fQ h4))
      ·have h4':(y.f.kind==11)=true:=eO h4
       refine cd (t1:=tI) ((i % 2:Nat):Int) (PVal.pure fun w=>by rw [← hrem]; exact sX (i:Int) 2 (by decide) w) ?_
       refine aD (fun h5=>?_) (fun h5=>?_)
       ·have h:((i % 2:Nat):Int)=1:=eq_of_beq h5
        omega
       ·exact hgo (by rw [hk]; exact h4')
     ·have h3':¬ i % 2=0:=fun h0=>by rw [h0] at h3; cases h3
      rw [if_neg h3'] at hno hgo
      refine cd (t1:=tI) ((i % 2:Nat):Int) (PVal.pure fun w=>by rw [← hrem]; exact sX (i:Int) 2 (by decide) w) ?_
      refine aD (fun h5=>?_) (fun h5=>?_)
      ·rw [hj]
       refine gz (b:=b) (x:=sl) (by repeat (first | exact mz | apply ms)) ?_
       refine bW (CU sl es j y hy) (fun A hA=>by obtain rfl:=List.mem_singleton.1 hA; exact (by repeat (first | exact mz | apply ms))) ?_
       refine aD (fun h4=>?_) (fun h4=>?_)
       ·exact bad (hno (by rw [hk]; exact fQ h4))
       ·exact hgo (by rw [hk]; exact eO h4)
      ·exfalso
       have h1:i % 2=1:=by omega
       rw [h1] at h5
       cases h5
    ·have hi':i=e.f.kids.length:=by have h':¬ (i:Int) < (e.ks.2.1:Int):=of_decide_eq_false h; omega
     subst hi'
     exact fy () ((hΔ 1 (by decide)).trans cn) rfl rfl fun F hF=>⟨rfl,hall⟩
   ·rintro ⟨⟩ L' ⟨⟩
    refine br fun F0 hx=>?_
    obtain ⟨rfl,hob⟩:=hx
    refine bK (b:=b2) (b1:=.slice) e.ks (by repeat (first | exact mz | apply ms)) (by kernel_rfl) rfl ?_
    refine cd (t1:=tI) ((e.f.kids.length % 2:Nat):Int) (PVal.pure fun w=>by
     have h:=sX (t:=ak) (e.ks.2.1:Int) 2 (by decide) w
     rw [show (e.ks.2.1:Int).tmod 2=((e.f.kids.length % 2:Nat):Int) by rw [Int.tmod_eq_emod_of_nonneg (by omega)]; omega] at h
     exact h) ?_
    refine bI ?_
    rw [hob,Bool.true_and]
    show (((e.f.kids.length % 2:Nat):Int)==1)=(e.f.kids.length % 2==1)
    rcases Nat.mod_two_eq_zero_or_one e.f.kids.length with h | h<;>rw [h]<;>rfl
  ·have h2':(e.f.kind==12)=false:=h2
   refine aD (fun h3=>?_) (fun h3=>?_)
   ·have hf:mT ns e.f=(decide (1 < e.f.kids.length)&&!(e.f.kids.any fun k=>!gI (da ns k))):=by unfold mT; rw [h2',show (e.f.kind==87)=true from h3]; rfl
    rw [hf] at bad ⊢
    refine bK (b:=b2) (b1:=.slice) e.ks (by repeat (first | exact mz | apply ms)) (by kernel_rfl) rfl ?_
    refine aD (fun h4=>?_) (fun h4=>?_)
    ·have h4':1 < e.f.kids.length:=by have h:(e.ks.2.1:Int) > 1:=of_decide_eq_true h4; omega
     refine bK (b:=b2) (b1:=.slice) e.ks (by repeat (first | exact mz | apply ms)) (by kernel_rfl) rfl ?_
     refine bW (xS e.ks e.f.kids hkb (aT fq #[.pointer (some ⟨b,0,none⟩)]) (fun k=>!gI (da ns k)) [gr b sl,cI sl es] fun k hk=>by
      have h:=List.all_eq_true.1 hin k hk
      rw [← hns] at h ⊢
      exact Hj sl es b k h) (fun A hA=>by
       rcases List.mem_cons.1 hA with rfl | hA
       ·exact (by repeat (first | exact mz | apply ms))
       rcases List.mem_cons.1 hA with rfl | hA
       ·exact (by repeat (first | exact mz | apply ms))
       ·obtain rfl:=List.mem_singleton.1 hA; exact (by repeat (first | exact mz | apply ms))) ?_
     exact bI (by rw [decide_eq_true h4']; rfl)
    ·have h4':¬ 1 < e.f.kids.length:=by have h:¬ (e.ks.2.1:Int) > 1:=of_decide_eq_false h4; omega
     exact bI (by rw [decide_eq_false h4']; rfl)
   ·exact fy () cn rfl rfl fun F hF=>⟨rfl,by unfold mT; rw [h2',show (e.f.kind==87)=false from h3]; rfl⟩
 rintro ⟨⟩ L' ⟨⟩
 refine br fun F0 hx=>?_
 obtain ⟨rfl,hf2⟩:=hx
 rw [hf2] at bad ⊢
 clear hf2
 refine bK (b:=b2) (b1:=.int .i64) e.f.kind (by repeat (first | exact mz | apply ms)) (by kernel_rfl) rfl ?_
 refine i1 (Hi e.f.kind) (fun A hA=>nomatch hA) fun p K=>?_
 refine n7 fun hK=>?_
 subst hK
 have hmany:=Dv e.f.kind
 have hplen:=Ey e.f.kind
 have h61:e.f.kind=61→(cM e.f.kind).1.length=3∧(cM e.f.kind).2.1=false:=fun h=>by rw [h]; exact ⟨GJ,Fx⟩
 refine dd (φ:=p.2.1=(cM e.f.kind).2.1∧p.2.2.1=(cM e.f.kind).2.2) (fun F hF=>(hF (mR (cM e.f.kind) p) (List.mem_cons_self ..)).2) fun ⟨hp1,hp2⟩=>?_
 refine cA (A:=gg p.1 (cM e.f.kind).1) (fun F hF=>(hF (mR (cM e.f.kind) p) (List.mem_cons_self ..)).1) ?_
 have hf3:A5 ns e.f=(((cM e.f.kind).2.2&&((cM e.f.kind).2.1||(cM e.f.kind).1.length==e.f.kids.length))&&(qd ns (cM e.f.kind).1 e.f.kids&&uO ns e.f)):=rfl
 revert hf3 hmany hp1 hp2 hplen h61
 generalize cM e.f.kind=pv
 obtain ⟨ps,many,ok⟩:=pv
 obtain ⟨px,pm,po,_⟩:=p
 simp only
 intro hmany hplen h61 hp1 hp2 hf3
 subst hp1; subst hp2
 refine Iw (x:=px) (ps:=ps) (List.mem_cons_self ..) fun vs hvl hpl=>?_
 refine c9 (!(po&&(pm||ps.length==e.f.kids.length))) ?_ ?_
 ·refine aD (fun h=>?_) (fun h=>?_)
  ·exact cT (by rw [show po=false from fQ h]; rfl)
  ·refine aD (fun h2=>?_) (fun h2=>?_)
   ·refine bK (b:=b2) (b1:=.slice) e.ks (by repeat (first | exact mz | apply ms)) (by kernel_rfl) rfl ?_
    refine cT ?_
    rw [show po=true from eO h,show pm=false from fQ h2,Bool.true_and,Bool.false_or]
    show (((px.2.1:Nat):Int) != ((e.ks.2.1:Nat):Int))=!(ps.length==e.f.kids.length)
    rw [hpl,hkl]
    show (!(((ps.length:Nat):Int)==(e.f.kids.length:Int)))=_
    congr 1
    by_cases hh:ps.length=e.f.kids.length
    ·rw [hh,beq_self_eq_true,beq_self_eq_true]
    ·rw [beq_eq_false_iff_ne.2 hh,beq_eq_false_iff_ne.2 (fun h=>hh (by omega))]
   ·exact cT (by rw [show po=true from eO h,show pm=true from eO h2]; rfl)
 refine aD (fun h=>?_) (fun h=>?_)
 ·exact bad (by rw [hf3,show (po&&(pm||ps.length==e.f.kids.length))=false from fQ h]; rfl)
 have h':(po&&(pm||ps.length==e.f.kids.length))=true:=eO h
 rw [h',Bool.true_and] at hf3
 have hps:0 < e.f.kids.length→0 < ps.length:=fun h0=>by
  rw [Bool.and_eq_true,Bool.or_eq_true] at h'
  rcases h'.2 with h2 | h2
  ·exact List.length_pos_iff.2 (hmany h2)
  ·have:=eq_of_beq h2
   omega
 refine bK (b:=b2) (b1:=.slice) e.ks (by repeat (first | exact mz | apply ms)) (by kernel_rfl) rfl ?_
 refine eo (δ:=Unit) (ts:=[]) (fun _=>()) (fun _ L'=>Fact.prop (L'=[]∧qd ns ps e.f.kids=true)) (fun _ _=>(Pure.pure (A5 ns e.f):Sp ε Unit Bool) ()) ?_ ?_
 ·have hplen':ps.length≤4:=hplen
  refine fU (ts:=[.b (.int .i64)]) e.f.kids.length (fun i=>((i:Int),())) (fun i L'=>Fact.prop (L'=[]∧((List.range i).all fun i=>match ps[min i (ps.length - 1)]? with
   | some p=>dK ns (eI ns p) (e.f.kids.getD i 0)
   | none=>false)=true)) rfl (fun F hF=>⟨rfl,rfl⟩) fun i L' Δ' hi hΔ out=>?_
  refine br fun F0 hx=>?_
  obtain ⟨rfl,hall⟩:=hx
  refine aD (fun h=>?_) (fun h=>?_)
  ·have hi':i < e.f.kids.length:=by have h':(i:Int) < (e.ks.2.1:Int):=of_decide_eq_true h; omega
   obtain ⟨j,y,hj,hy,hk⟩:=hkin i hi'
   have hpp:=hps (by omega)
   have hmi:min i (ps.length - 1) < ps.length:=by omega
   have hmv:min i (ps.length - 1) < vs.length:=by omega
   have hpi:ps[min i (ps.length - 1)]? = some ps[min i (ps.length - 1)]:=List.getElem?_eq_getElem hmi
   have hvi:vs[min i (ps.length - 1)]? = some vs[min i (ps.length - 1)]:=List.getElem?_eq_getElem hmv
   have hkb:dK ns (eI ns ps[min i (ps.length - 1)]) e.f.kids[i]=eI ns ps[min i (ps.length - 1)] y.f:=by
    unfold dK
    rw [hj,← hns,Int.toNat_natCast,List.getElem?_map,hy,decide_eq_true (by omega)]
    rfl
   refine li i (by repeat (first | exact mz | apply ms)) rfl hi' ?_
   have hix:(if (IntKind.i64.wrap ((px.2.1:Int) - 1):Int) < (i:Int) then IntKind.i64.wrap ((px.2.1:Int) - 1) else (i:Int))=((min i (ps.length - 1):Nat):Int):=by
    rw [aS (by omega) (by omega)]
    by_cases hlt:(px.2.1:Int) - 1 < (i:Int)
    ·rw [if_pos hlt]; omega
    ·rw [if_neg hlt]; omega
   refine cA (A:=Rw 1 (fun v=>[v]) px vs) (fun F hF=>(hF (EE px vs ps) (by repeat (first | exact mz | apply ms))).1) ?_
   refine Co (n:=1) (f:=fun v=>[v]) (l:=vs) (b1:=.val) (x:=px) (List.mem_cons_self ..) (by kernel_rfl) (by decide) (by kernel_rfl) (min i (ps.length - 1)) hix hvi vs[min i (ps.length - 1)] rfl ?_
   refine gz (b:=b) (x:=sl) (by repeat (first | exact mz | apply ms)) ?_
   rw [hj]
   refine cA (A:=aX vs[min i (ps.length - 1)] ps[min i (ps.length - 1)]) (fun F hF=>(hF (EE px vs ps) (by repeat (first | exact mz | apply ms))).2 _ _ _ hvi hpi) ?_
   refine bW (sQ sl es ps[min i (ps.length - 1)] vs[min i (ps.length - 1)] j y hy) (fun A hA=>by
    rcases List.mem_cons.1 hA with rfl | hA
    ·exact List.mem_cons_self ..
    ·obtain rfl:=List.mem_singleton.1 hA; exact (by repeat (first | exact mz | apply ms))) ?_
   rw [hns]
   refine aD (fun h2=>?_) (fun h2=>?_)
   ·refine bad ?_
    have:qd ns ps e.f.kids=false:=List.all_eq_false.2 ⟨i,List.mem_range.2 hi',by
     simp only [hpi,hgd i hi']
     rw [hkb,fQ h2]; decide⟩
    rw [hf3,this]; rfl
   ·refine out hi' ?_ fun F hF=>⟨rfl,?_⟩
    ·show [Value.int .i64 (IntKind.i64.wrap ((i:Int)+1))]=[Value.int .i64 ((i+1:Nat):Int)]
     rw [aS (by omega) (by omega)]; rfl
    ·rw [List.range_succ,List.all_append,hall]
     show (true&&([i].all _))=true
     rw [List.all_cons]
     simp only [hpi,hgd i hi']
     rw [hkb,eO h2]; rfl
  ·have hi':i=e.f.kids.length:=by have h':¬ (i:Int) < (e.ks.2.1:Int):=of_decide_eq_false h; omega
   subst hi'
   exact fy () ((hΔ 0 (by decide)).trans cn) rfl rfl fun F hF=>⟨rfl,hall⟩
 rintro ⟨⟩ L' ⟨⟩
 refine br fun F0 hx=>?_
 obtain ⟨rfl,hpa⟩:=hx
 rw [hpa,Bool.true_and] at hf3
 rw [hf3]
 clear bad
 refine bK (b:=b2) (b1:=.int .i64) e.f.kind (by repeat (first | exact mz | apply ms)) (by kernel_rfl) rfl ?_
 refine aD (fun h2=>?_) (fun h2=>?_)
 ·exact bI (by unfold uO; rw [show (e.f.kind != 61)=true from h2]; rfl)
 have h2':(e.f.kind != 61)=false:=h2
 have hk61:e.f.kind=61:=eq_of_beq (eO h2')
 obtain ⟨hl3,hm3⟩:=h61 hk61
 have hkl3:e.f.kids.length=3:=by
  rw [Bool.and_eq_true,Bool.or_eq_true] at h'
  rcases h'.2 with h4 | h4
  ·rw [hm3] at h4; cases h4
  ·have:=eq_of_beq h4
   omega
 have hlast:uO ns e.f=(da ns (e.f.kids.getD 1 0) != 1||da ns (e.f.kids.getD 2 0) != 1):=by unfold uO; rw [h2']; rfl
 rw [hlast,hgd 1 (by omega),hgd 2 (by omega)]
 have hcall:∀ i (hi:i < e.f.kids.length),Meets PG (I0:av ε Unit) (aK (aT eC #[.pointer (some ⟨b,0,none⟩),.pointer (some ⟨b2,0,none⟩)]) #[.int .i64 i]) tI (Pure.pure (da ns e.f.kids[i])) aJ [gr b sl,o0 b2 e,Rw 1 bS e.ks e.f.kids,cI sl es]:=fun i hi=>by
  have h5:=List.all_eq_true.1 hin _ (List.getElem_mem hi)
  rw [← hns] at h5 ⊢
  exact Iu sl es e b b2 i e.f.kids[i] (List.getElem?_eq_getElem hi) h5
 have hsub:∀ A∈[gr b sl,o0 b2 e,Rw 1 bS e.ks e.f.kids,cI sl es],A∈[EE px vs ps,gg px ps,mR (ps,pm,po) (px,pm,po,()),Rw 1 bS e.ks e.f.kids,o0 b2 e,gr b sl,cI sl es,MxF]:=fun A hA=>by
  rcases List.mem_cons.1 hA with rfl | hA
  ·exact (by repeat (first | exact mz | apply ms))
  rcases List.mem_cons.1 hA with rfl | hA
  ·exact (by repeat (first | exact mz | apply ms))
  rcases List.mem_cons.1 hA with rfl | hA
  ·exact (by repeat (first | exact mz | apply ms))
  ·obtain rfl:=List.mem_singleton.1 hA; exact (by repeat (first | exact mz | apply ms))
 refine bW (hcall 1 (by omega)) (fun A hA=>by first | exact hsub A hA | exact List.mem_cons_of_mem _ (hsub A hA)) ?_
 refine aD (fun h5=>?_) (fun h5=>?_)
 ·exact bI (by rw [show (da ns e.f.kids[1] != 1)=true from h5]; rfl)
 ·refine bW (hcall 2 (by omega)) (fun A hA=>by first | exact hsub A hA | exact List.mem_cons_of_mem _ (hsub A hA)) ?_
  exact bI (by rw [show (da ns e.f.kids[1] != 1)=false from h5]; rfl)
end
end Go.Proofs.YtjlgcpgjdgeejaaGreatDoor
end

section
namespace Go.Proofs.YtjlgcpgjdgeejaaGreatDoor
open Go
set_option linter.unusedSimpArgs false
set_option linter.unusedVariables false
set_option linter.constructorNameAsVariable false
set_option maxRecDepth 100000
noncomputable abbrev eV:TypeId:=PG.elem dA
abbrev G3:Ty:=.tup [.b (.int .i64),.b (.int .i64)]
def lg (p:Nat × Nat):List Value:=[.int .i64 (p.1:Int),.int .i64 (p.2:Int)]
theorem nj (p:Nat × Nat):(lg p).length=2:=rfl
def fa (ns:List FN) (i:Nat):List Int:=match ns[i]? with
 | some x=>x.kids
 | none=>[]
def eG (ns:List FN) (i:Nat):Bool:=match ns[i]? with
 | some x=>gQ ns x
 | none=>false
def iL (ns:List FN):Nat→List (Nat × Nat)→Nat→HC [.b (.int .i64),.b (.int .i64)]
 | 0,_,_=>(0,99,())
 | f+1,[],n=>if n < ns.length then ((n:Int),7,()) else (-1,0,())
 | f+1,(a,k)::r,n =>
  if k=(fa ns a).length then iL ns f r n
  else if (fa ns a).getD k 0=(n:Int) then
   if eG ns n then iL ns f ((n,0)::(a,k+1)::r) (n+1) else ((n:Int),7,())
  else ((a:Int),7,())
def ej (ns:List FN):HC [.b (.int .i64),.b (.int .i64)]:=if ns.length=0 then (0,7,()) else if eG ns 0 then iL ns (2 * ns.length+2) [(0,0)] 1 else (0,7,())
theorem GN {L:al} {Γ:List Fact} {t e:TypeId} {size:Nat} {v z:Value} (row:List Value) (ht:kI PG t=some (e,size)) (hz:(PG.info? e).bind (·.zero)=some z) (h0:0 < size) (h1:size≤1000)
  (hf:Instr.fill (fun i=>some (i * size,size)) ((Array.range (1 * size)).map (z.cells[· % z.cells.size]!)) [(0,v)]=some row.toArray) :
  Loc PG (ar t 1 #[(0,v)]) ah L Γ fun y L' Γ'=>∃ b,y=(some ⟨b,0,none⟩,1,1)∧L'=(b,aq e row)::L∧Γ'=Γ :=
 Loc.val fun r w F H hF hsp=>⟨(some ⟨w.heap.size,0,none⟩,1,1),w.alloc (aq e row),_,Γ,F,.inl (by
   have:=gm (P:=PG) (w:=w) (t:=t) (e:=e) (n:=1) (size:=size) (ps:=#[(0,v)]) (cells:=row.toArray) (zero:=z) ht (by omega) hz hf (by omega)
   have h2:(ar t 1 #[(0,v)]).run PG w=.ok (.value (.slice (some ⟨w.heap.size,0,none⟩) 1 1)) (w.alloc (aq e row)):=by simpa using this
   exact h2),Heap.le.refl F,hF,(hsp.new (aq e row)).perm List.perm_middle,w.heap.size,rfl,rfl,rfl⟩
theorem HN (a k:Int):Instr.fill (fun i=>some (i * 2,2)) ((Array.range (1 * 2)).map ((Value.agg #[.int .i64 0,.int .i64 0]).cells[· % (Value.agg #[.int .i64 0,.int .i64 0]).cells.size]!)) [(0,.agg #[.int .i64 a,.int .i64 k])]=some [Value.int .i64 a,.int .i64 k].toArray :=
 congrFun (congrFun (show (fun (a k:Int)=>Instr.fill (fun i=>some (i * 2,2)) ((Array.range (1 * 2)).map ((Value.agg #[.int .i64 0,.int .i64 0]).cells[· % (Value.agg #[.int .i64 0,.int .i64 0]).cells.size]!)) [(0,.agg #[.int .i64 a,.int .i64 k])])=(fun (a k:Int)=>some [Value.int .i64 a,.int .i64 k].toArray) from by kernel_rfl) a) k
theorem Gt {cells:List Value} {r:List (Nat × Nat)} {p:Nat × Nat} {n:Nat} (hn:n=r.length+1) (h:cells.take (n * 2)=rows lg (p::r).reverse) :
  cells[r.length * 2]? = some (.int .i64 (p.1:Int))∧cells[r.length * 2+1]? = some (.int .i64 (p.2:Int)):=by
 have h1:(rows lg r.reverse).length=2 * r.length:=by rw [ce nj,List.length_reverse]
 have e:∀ j,j < n * 2→cells[j]? = (rows lg r.reverse++lg p)[j]?:=fun j hj=>by
  rw [List.reverse_cons,fF] at h
  rw [← h,List.getElem?_take,if_pos hj]
 constructor
 ·rw [e _ (by omega),List.getElem?_append_right (by omega),h1,show r.length * 2 - 2 * r.length=0 by omega]; rfl
 ·rw [e _ (by omega),List.getElem?_append_right (by omega),h1,show r.length * 2+1 - 2 * r.length=1 by omega]; rfl
theorem Io {r:List (Nat × Nat)} {a k:Nat}:bB (rows lg ((a,k)::r).reverse) (r.length * 2+1) [.int .i64 ((k+1:Nat):Int)]=rows lg ((a,k+1)::r).reverse:=by
 have h1:(rows lg r.reverse).length=2 * r.length:=by rw [ce nj,List.length_reverse]
 rw [List.reverse_cons,List.reverse_cons,fF,fF]
 unfold bB
 rw [List.take_append,List.take_of_length_le (by omega),h1,show r.length * 2+1 - 2 * r.length=1 by omega,List.drop_append,List.drop_of_length_le (by omega),h1]
 rw [show r.length * 2+1+[Value.int .i64 ((k+1:Nat):Int)].length - 2 * r.length=2 by simp; omega]
 simp [lg]
theorem Ak {l vs:List Value} {o j:Nat} (h:j < o) (ho:o≤l.length):(bB l o vs)[j]? = l[j]?:=by
 unfold bB
 rw [List.append_assoc,List.getElem?_append_left (by rw [List.length_take]; omega),List.getElem?_take,if_pos h]
structure Lm (ns:List FN) (N i:Nat) (V:HC [.b (.int .i64),.b (.int .i64)]) (st:List (Nat × Nat)) (n:Nat):Prop where
 all:∀ p∈st,p.1 < ns.length∧eG ns p.1=true∧p.2≤(fa ns p.1).length
 n0:1≤n
 le:n≤ns.length
 fuel:2 * (ns.length - n)+st.length+i≤N
 eq:iL ns (N+1 - i) st n=V
theorem BN {ns:List FN} {x:FN} (h:gQ ns x=true):x.kids.all (inB ns)=true:=by
 unfold gQ at h
 rw [Bool.and_eq_true,Bool.and_eq_true] at h
 exact h.2.1
theorem Ir {ε:Type} (sl:aI) (es:List E):Meets PG (I0:av ε Unit) (aa nP #[.agg #[.slice sl.1 sl.2.1 sl.2.2]]) G3 (Pure.pure (ej (es.map (·.f)))) aJ [cI sl es,MxF]:=by
 refine BE (sl,()) (bc fun st=>?_)
 obtain rfl:st=():=rfl
 unfold nL
 generalize hns:es.map (·.f)=ns
 have hlen:ns.length=es.length:=by rw [← hns,List.length_map]
 have hat:∀ (i:Nat) (e:E),es[i]? = some e→fa ns i=e.f.kids∧eG ns i=gQ ns e.f:=fun i e he=>by
  have:ns[i]? = some e.f:=by rw [← hns,List.getElem?_map,he]; rfl
  unfold fa eG
  rw [this]; exact ⟨rfl,rfl⟩
 refine ee (x:=sl) fun b=>ln (List.mem_cons_self ..) (sb (by repeat (first | exact mz | apply ms)) fun hl hle=>?_)
 have hend:∀ {v y:Int} {Δ:Labels ε Unit (HC [.b (.int .i64),.b (.int .i64)])} {md:cK} {L:al} {Γ:List Fact},ej ns=(v,y,())→au PG (I0:av ε Unit) G3 (pl aJ) Δ md () (.ret #[.v (.int .i64 v),.v (.int .i64 y)]) ((Pure.pure (ej ns):Sp ε Unit _) ()) L Γ:=fun h=>by
  rw [h]
  exact cY (t:=G3) (_,_,()) (_,_,()) rfl (fun r w F H _ _=>by rw [il]; rfl) fun F hF=>rfl
 refine aD (fun h=>?_) (fun h=>?_)
 ·have h':(sl.2.1:Int)=0:=eq_of_beq h
  exact hend (by unfold ej; rw [if_pos (by omega)])
 have h0:0 < es.length:=by
  rcases Nat.eq_zero_or_pos es.length with h' | h'
  ·rw [hl,h'] at h; cases h
  ·exact h'
 have he0:es[0]? = some es[0]:=List.getElem?_eq_getElem h0
 refine gz (b:=b) (x:=sl) (List.mem_cons_self ..) ?_
 refine bW (Gl sl es 0 es[0] he0) (fun A hA=>by
  rcases List.mem_cons.1 hA with rfl | hA
  ·exact (by repeat (first | exact mz | apply ms))
  ·obtain rfl:=List.mem_singleton.1 hA; exact (by repeat (first | exact mz | apply ms))) ?_
 rw [hns]
 have hf0:=(hat 0 es[0] he0).2
 refine aD (fun h1=>?_) (fun h1=>?_)
 ·exact hend (by unfold ej; rw [if_neg (by omega),hf0,show gQ ns es[0].f=false from fQ h1]; rfl)
 have h1':eG ns 0=true:=by rw [hf0]; exact eO h1
 have hV:ej ns=iL ns (2 * ns.length+2) [(0,0)] 1:=by unfold ej; rw [if_neg (by omega),if_pos h1']
 refine bY (GN (e:=eV) (size:=2) (z:=.agg #[.int .i64 0,.int .i64 0]) [.int .i64 0,.int .i64 0] (by kernel_rfl) (by kernel_rfl) (by decide) (by decide) (HN 0 0)) ?_
 rintro _ _ _ ⟨bk,rfl,rfl,rfl⟩
 refine eo (δ:=Nat) (ts:=[.b (.int .i64)]) (fun n=>((n:Int),())) (fun n L'=>Fact.prop (ej ns=if n < ns.length then ((n:Int),7,()) else (-1,0,()))) (fun _ _=>(Pure.pure (ej ns):Sp ε Unit _) ()) ?_ ?_
 ·refine sU (δ:=aI × List (Nat × Nat) × Nat) (ts:=[.b .slice,.b (.int .i64)]) (2 * ns.length+1) (fun i d=>(d.1,(d.2.2:Int),())) (fun i d L'=>Fact.prop (Buf eV 2 d.1 (rows lg d.2.1.reverse) L'∧Lm ns (2 * ns.length+1) i (ej ns) d.2.1 d.2.2)) ((some ⟨bk,0,none⟩,1,1),[(0,0)],1) rfl (fun F hF=>⟨.inr ⟨bk,[.int .i64 0,.int .i64 0],rfl,rfl,rfl,Nat.le_refl _,(by show 1≤maxLen; decide),rfl,rfl⟩,fun p hp=>by
    obtain rfl:=List.mem_singleton.1 hp
    exact ⟨by show 0 < ns.length; omega,h1',Nat.zero_le _⟩,Nat.le_refl _,(by show 1≤ns.length; omega),(by show 2 * (ns.length - 1)+1+0≤_; omega),by rw [hV]; rfl⟩) fun i d L' Δ' hi hΔ out=>?_
  obtain ⟨x,stk,n⟩:=d
  refine br fun F0 hx=>?_
  obtain ⟨hB,hI⟩:=hx
  have hxl:x.2.1=stk.length:=by
   have h:=hB.len
   simp only [ce nj,List.length_reverse] at h
   omega
  have hfu:=hI.fuel
  have hnl:=hI.le
  simp only at hB hI hxl hfu hnl
  refine aD (fun h2=>?_) (fun h2=>?_)
  ·have hpos:0 < x.2.1:=by have h:(x.2.1:Int) > 0:=of_decide_eq_true h2; omega
   cases stk with
   | nil=>simp at hxl; omega
   | cons p r =>
    obtain ⟨a,k⟩:=p
    obtain ⟨g,cells,hK,hx1,hx3,hx4,hx5,hx6,hx7⟩:=hB.open hpos
    subst hK
    obtain ⟨xa,xl,xc⟩:=x
    simp only at hx1 hxl hx3 hx4 hx5 hx6 hx7 hpos
    subst hx1
    obtain ⟨hc1,hc2⟩:=Gt (p:=(a,k)) (r:=r) (n:=xl) (by rw [hxl]; rfl) hx7
    simp only at hc1 hc2
    obtain ⟨ha1,ha2,ha3⟩:=hI.all (a,k) (List.mem_cons_self ..)
    simp only at ha1 ha2 ha3
    have hea:es[a]? = some es[a]:=List.getElem?_eq_getElem (by omega)
    obtain ⟨hka,hfa⟩:=hat a es[a] hea
    rw [hka] at ha3
    rw [hfa] at ha2
    have hxl':xl=r.length+1:=hxl
    have heq:=hI.eq
    obtain ⟨f,hf⟩:∃ f,2 * ns.length+1+1 - i=f+1:=⟨2 * ns.length+1 - i,by omega⟩
    rw [hf] at heq
    have hstep:iL ns (f+1) ((a,k)::r) n=if k=(fa ns a).length then iL ns f r n
      else if (fa ns a).getD k 0=(n:Int) then
       if eG ns n then iL ns f ((n,0)::(a,k+1)::r) (n+1) else ((n:Int),7,())
      else ((a:Int),7,()):=rfl
    rw [hstep,hka] at heq
    clear hstep
    have hm1:IntKind.i64.wrap ((xl:Int) - 1)=(r.length:Int):=by rw [aS (by omega) (by omega)]; omega
    have hcl:r.length * 2+2≤cells.length:=by omega
    refine cd (t1:=tA) ⟨g,r.length * 2,none⟩ (PVal.pure fun w=>?_) ?_
    ·show (aR dA (.slice (some ⟨g,0,none⟩) xl xc) (.int .i64 (IntKind.i64.wrap ((xl:Int) - 1)))).run PG w=_
     rw [hm1,fM (n:=2) (by kernel_rfl) (by omega) (by omega)]
     simp [Ty.enc,C.enc,B.enc,Addr.add]
     try (intro h; omega)
    have hem:=List.mem_of_getElem? hea
    refine cA (A:=Rw 5 dJ sl es) (pD (by repeat (first | exact mz | apply ms))) ?_
    refine dd (φ:=es[a].ks.2.1=es[a].f.kids.length∧es[a].f.kids.length≤1099511627776) (fun F hF=>⟨((hF (cI sl es) (by repeat (first | exact mz | apply ms))).2.1 _ hem).1,((hF (cI sl es) (by repeat (first | exact mz | apply ms))).2.2.2 _ hem).1⟩) fun ⟨hkl,hkb⟩=>?_
    refine cA (A:=Rw 1 bS es[a].ks es[a].f.kids) (fun F hF=>(hF (cI sl es) (by repeat (first | exact mz | apply ms))).2.1 _ hem) ?_
    refine dv [(g,aq eV cells)] (fun p hp=>hp) (Fq (x:=sl) (by repeat (first | exact mz | apply ms)) ?_)
    refine vK (b1:=.int .i64) (a:Int) (List.mem_cons_self ..) (by kernel_rfl) rfl hc1 ?_
    refine Lb (n:=5) (f:=dJ) (l:=es) (b1:=.slice) (by repeat (first | exact mz | apply ms)) (by repeat (first | exact mz | apply ms)) (by kernel_rfl) (by kernel_rfl) a rfl hea (d:=3) (by decide) es[a].ks rfl ?_
    refine eL (b1:=.int .i64) (k:Int) (List.mem_cons_self ..) (by kernel_rfl) rfl hc2 ?_
    refine aD (fun h3=>?_) (fun h3=>?_)
    ·have h3':k=es[a].f.kids.length:=by have h:(k:Int)=(es[a].ks.2.1:Int):=eq_of_beq h3; omega
     rw [if_pos h3'] at heq
     refine cd (t1:=ah) ((some ⟨g,0,none⟩,r.length,xc):aI) (PVal.pure fun w=>?_) ?_
     ·show (d8 dA (.slice (some ⟨g,0,none⟩) xl xc) none (some (.int .i64 (IntKind.i64.wrap ((xl:Int) - 1)))) none).run PG w=_
      rw [hm1,uH (k:=.i64) (by kernel_rfl) ⟨_,rfl⟩ (fun b hb=>by cases hb; rfl) (by omega) (by omega)]
      simp [Ty.enc,C.enc,B.enc]
     ·have hB2:Buf eV 2 (some ⟨g,0,none⟩,r.length,xc) (rows lg r.reverse) [(g,aq eV cells)]:=by
       have h:=hB.take (m:=r.length) (by show r.length≤xl; omega)
       rw [List.reverse_cons,fF,List.take_append,ce nj,List.length_reverse,List.take_of_length_le (by rw [ce nj,List.length_reverse]; omega),show r.length * 2 - 2 * r.length=0 by omega,List.take_zero,List.append_nil] at h
       exact h
      exact out ((some ⟨g,0,none⟩,r.length,xc),r,n) (by simp at hfu; omega) rfl fun F hF=>⟨hB2,fun p hp=>hI.all p (List.mem_cons_of_mem _ hp),hI.n0,hI.le,(by show 2 * (ns.length - n)+r.length+(i+1)≤_; simp at hfu; omega),by rw [show 2 * ns.length+1+1 - (i+1)=f by omega]; exact heq⟩
    ·have h3':¬ k=es[a].f.kids.length:=fun h0=>by rw [h0,hkl] at h3; simp at h3
     rw [if_neg h3'] at heq
     have hk':k < es[a].f.kids.length:=by omega
     refine eL (b1:=.int .i64) (k:Int) (List.mem_cons_self ..) (by kernel_rfl) rfl hc2 ?_
     refine li (l:=es[a].f.kids) k (by repeat (first | exact mz | apply ms)) rfl hk' ?_
     refine eL (b1:=.int .i64) (k:Int) (List.mem_cons_self ..) (by kernel_rfl) rfl hc2 ?_
     have hwk:IntKind.i64.wrap ((k:Int)+1)=((k+1:Nat):Int):=by rw [aS (by omega) (by omega)]; rfl
     rw [hwk]
     refine bY (a6 (L1:=[]) (L2:=[]) (l:=cells) (T:=ak) (T0:=eV) (c:=false) rfl (by kernel_rfl) rfl (by show r.length * 2+1+1≤_; omega) (by simp [Value.cells,Value.oneCell'])) ?_
     rintro _ _ _ ⟨rfl,rfl⟩
     have hB2:Buf eV 2 (some ⟨g,0,none⟩,xl,xc) (rows lg ((a,k+1)::r).reverse) [(g,aq eV (bB cells (r.length * 2+1) [.int .i64 ((k+1:Nat):Int)]))]:=by
      have h:=Buf.set (e:=eV) (size:=2) (o:=r.length * 2+1) (x:=(some ⟨g,0,none⟩,xl,xc)) (vs:=[.int .i64 ((k+1:Nat):Int)]) (g:=g) rfl hx3 hx4 hx5 hx6 hx7 (by show r.length * 2+1+1≤xl * 2; omega)
      rw [Io] at h
      exact h
     have hgd:es[a].f.kids.getD k 0=es[a].f.kids[k]:=by rw [List.getD_eq_getElem?_getD,List.getElem?_eq_getElem hk']; rfl
     rw [hgd] at heq
     have hin:=List.all_eq_true.1 (BN ha2) _ (List.getElem_mem hk')
     refine aD (fun h4=>?_) (fun h4=>?_)
     ·have h4':¬ es[a].f.kids[k]=(n:Int):=fun h0=>by rw [h0] at h4; simp at h4
      rw [if_neg h4'] at heq
      refine eL (b1:=.int .i64) (a:Int) (List.mem_cons_self ..) (by kernel_rfl) rfl (by show (bB cells (r.length * 2+1) _)[r.length * 2]? = _; rw [Ak (by omega) (by omega)]; exact hc1) ?_
      exact hend heq.symm
     ·have h4':es[a].f.kids[k]=(n:Int):=eq_of_beq (eO h4)
      rw [if_pos h4'] at heq
      rw [h4'] at hin ⊢
      have hnlt:n < es.length:=by
       unfold inB at hin
       rw [Bool.and_eq_true,decide_eq_true_eq,decide_eq_true_eq] at hin
       omega
      have hen:es[n]? = some es[n]:=List.getElem?_eq_getElem hnlt
      obtain ⟨_,hfn⟩:=hat n es[n] hen
      refine gz (b:=b) (x:=sl) (by repeat (first | exact mz | apply ms)) ?_
      refine bW (Gl sl es n es[n] hen) (fun A hA=>by
       rcases List.mem_cons.1 hA with rfl | hA
       ·exact (by repeat (first | exact mz | apply ms))
       ·obtain rfl:=List.mem_singleton.1 hA; exact (by repeat (first | exact mz | apply ms))) ?_
      rw [hns]
      refine aD (fun h5=>?_) (fun h5=>?_)
      ·have h5':eG ns n=false:=by rw [hfn]; exact fQ h5
       exact hend (by rw [← heq,h5']; rfl)
      ·have h5':eG ns n=true:=by rw [hfn]; exact eO h5
       rw [if_pos h5'] at heq
       refine bY (kr (e:=eV) (size:=2) (z:=.agg #[.int .i64 0,.int .i64 0]) [.int .i64 (n:Int),.int .i64 0] (by kernel_rfl) (by kernel_rfl) (by decide) (by decide) (HN n 0)) ?_
       rintro _ _ _ ⟨bp,rfl,rfl,rfl⟩
       refine bY (eM (L0:=[]) (K:=[(g,aq eV (bB cells (r.length * 2+1) [.int .i64 ((k+1:Nat):Int)]))]) (x:=(some ⟨g,0,none⟩,xl,xc)) (size:=2) (bytes:=16) (e:=eV) (m:=1) (news:=[.int .i64 (n:Int),.int .i64 0]) (by kernel_rfl) rfl hB2 (Rd.at (List.mem_cons_self ..)) rfl rfl rfl (by decide) (by simp [Value.oneCell']) (by show (xl+1) * 16≤_; simp at hfu; omega) (by show xl+1≤_; simp at hfu; omega)) ?_
       rintro y _ _ ⟨K',rfl,rfl,hy,hB3⟩
       refine out (y,(n,0)::(a,k+1)::r,n+1) (by simp at hfu; omega) ?_ fun F hF=>⟨?_,?_⟩
       ·show [Value.slice y.1 y.2.1 y.2.2,Value.int .i64 (IntKind.i64.wrap ((n:Int)+1))]=[Value.slice y.1 y.2.1 y.2.2,Value.int .i64 ((n+1:Nat):Int)]
        rw [aS (by omega) (by omega)]; rfl
       ·show Buf eV 2 y (rows lg ((n,0)::(a,k+1)::r).reverse) (K'++[])
        rw [List.reverse_cons,fF,List.append_nil]
        exact hB3
       ·refine ⟨fun p hp=>?_,(by show 1≤n+1; omega),(by show n+1≤ns.length; omega),(by show 2 * (ns.length - (n+1))+(r.length+1+1)+(i+1)≤_; simp at hfu; omega),by rw [show 2 * ns.length+1+1 - (i+1)=f by omega]; exact heq⟩
        rcases List.mem_cons.1 hp with rfl | hp
        ·exact ⟨by show n < ns.length; omega,h5',Nat.zero_le _⟩
        rcases List.mem_cons.1 hp with rfl | hp
        ·exact ⟨ha1,by show eG ns a=true; rw [hfa]; exact ha2,by show k+1≤(fa ns a).length; rw [hka]; omega⟩
        ·exact hI.all p (List.mem_cons_of_mem _ hp)
  ·have hnil:stk=[]:=by
    have h:¬ (x.2.1:Int) > 0:=of_decide_eq_false h2
    exact List.eq_nil_of_length_eq_zero (by omega)
   subst hnil
   have heq:=hI.eq
   obtain ⟨f,hf⟩:∃ f,2 * ns.length+1+1 - i=f+1:=⟨2 * ns.length+1 - i,by omega⟩
   rw [hf] at heq
   exact fy n ((hΔ 0 (by decide)).trans cn) rfl rfl fun F hF=>heq.symm
 ·rintro n L' ⟨⟩
  refine br fun F0 hx=>?_
  refine ln (x:=sl) (b:=b) (by repeat (first | exact mz | apply ms)) ?_
  refine aD (fun h2=>?_) (fun h2=>?_)
  ·have h:(n:Int) < (sl.2.1:Int):=of_decide_eq_true h2
   exact hend (by rw [show ej ns=_ from hx,if_pos (by omega)])
  ·have h:¬ (n:Int) < (sl.2.1:Int):=of_decide_eq_false h2
   exact hend (by rw [show ej ns=_ from hx,if_neg (by omega)])
end Go.Proofs.YtjlgcpgjdgeejaaGreatDoor
end

section
namespace Go.Proofs.YtjlgcpgjdgeejaaGreatDoor
open Go
set_option linter.unusedVariables false
set_option maxRecDepth 100000
noncomputable section
def pz:An :=
 .r [some tA,none]
def pY:An :=
 .r [some tA,some tU]
def pX:An :=
 .r [some (.c (.agg [.slice])),some tV]
def pR:An :=
 .r [none]
def pO:An :=
 .b (.r [some tI,none,none,some tU])
def pk:An :=
 .s (.r [some tI,none]) (.x)
def lX (a0_t:HB [.slice]):T :=
 .op (cJ ap (.agg #[.slice a0_t.1.1 a0_t.1.2.1 a0_t.1.2.2])) tA fun r1 =>
 .op (bj ak) tA fun r2 =>
 .op (aW ak (.pointer (some r2)) (.int .i64 0)) tU fun _ =>
 .op (ai ap (.pointer (some r1))) (.c (.agg [.slice])) fun r4 =>
 .op (aa o4 #[.agg #[.slice r4.1.1 r4.1.2.1 r4.1.2.2]]) tV fun r5 =>
 .out 0 [.int .i64 0,.pointer (some r2),r5]
def lW (s2:Int) (s3:Addr) (s7:Value) (p9:Int):T :=
 .out 0 [.pointer (some s3),.int .i64 p9]
def mn (b3:Addr) (b5:Int):T :=
 .op (ai ak (.pointer (some b3))) tI fun r6 =>
 .op (aW ak (.pointer (some b3)) (.int .i64 (if (b5:Int) > r6 then b5 else r6))) tU fun _ =>
 .out 0 []
def ml (s2:Int) (s3:Addr) (s7:Value):T :=
 .op (ai ak (.pointer (some s3))) tI fun r8 =>
 .out 0 [.int .i64 r8]
theorem AY (a0_t:HB [.slice]):den Tryz.prog (NN.of 14) #[] (bH Tryz.f29).lft pz 1 (dG [.agg #[.slice a0_t.1.1 a0_t.1.2.1 a0_t.1.2.2]]) (fun e=>den Tryz.prog (NN.of 14) #[] (bH Tryz.f29).rgt.lft pY 1 e (fun e=>den Tryz.prog (NN.of 14) #[] (bH Tryz.f29).rgt.rgt.lft.lft pX 1 e (d9 0 [2,3,7]) e0) e0) e0=lX a0_t:=by kernel_rfl
theorem AE (s2:Int) (s3:Addr) (s7:Value) (p9:Int) (l:Nat):den Tryz.prog ⟨0,14,[],fun _=>undef,some l⟩ #[] (bH Tryz.f29).rgt.rgt.lft.rgt.inB.rAs pR 1 (Env.puts (Env.puts (fun _=>none) [2,3,7] [.int .i64 s2,.pointer (some s3),s7]) [9] [.int .i64 p9]) (d9 0 [3,5]) e0=lW s2 s3 s7 p9:=by kernel_rfl
theorem z8 (b3:Addr) (b5:Int) (l:Nat):den Tryz.prog ⟨0,14,[],fun _=>undef,some l⟩ #[] (bH Tryz.f29).rgt.rgt.lft.rgt.inB.rBd pO 2 (Env.puts (fun _=>none) [3,5] [.pointer (some b3),.int .i64 b5]) qz wB=mn b3 b5:=by kernel_rfl
theorem z1 (s2:Int) (s3:Addr) (s7:Value) (D:List Deferred) (K:Nat→Value):den Tryz.prog ⟨0,14,D,K,none⟩ #[] (bH Tryz.f29).rgt.rgt.rgt pk 1 (Env.puts (fun _=>none) [2,3,7] [.int .i64 s2,.pointer (some s3),s7]) (d9 0 [2]) (fun ex e=>match ex with | .ret=>d9 0 [2] e | _=>.bad)=ml s2 s3 s7:=by kernel_rfl
theorem zU (s2:Int) (s3:Addr) (s7:Value) (p9:Int) {l fid:Nat} {tmps:Array Value} {w:World} {K:Value→World→Prop} {N:List PanicEntry→World→Prop} (hsz:tmps.size=14) (hag:∀ s v,(Env.puts (fun _=>none) [2,3,7] [.int .i64 s2,.pointer (some s3),s7]) s=some v→tmps.getD s undef=v.val)
  (h:(lW s2 s3 s7 p9).wp Tryz.prog (fun _=>True) (fun _ vs w1=>∃ r:Loop,w1.heap[l]? = some (.loop r)∧r.state=.ready∧∃ b3:Addr,∃ b5:Int,vs=[.pointer (some b3),.int .i64 b5]∧(mn b3 b5).wp Tryz.prog (fun _=>True) (fun i _ w2=>t7 l K i w2) (fun _ _=>False) (w1.putObj l (.loop { r with state:=.busy }))) (fun _ _=>False) w) :
  RoundIn Fence.wide 0 Tryz.prog l fid ((#[9].zip #[.int .i64 p9]).foldl (fun t (p,v)=>t.setIfInBounds p v) tmps) (bH Tryz.f29).rgt.rgt.lft.rgt.inB.rAs (bH Tryz.f29).rgt.rgt.lft.rgt.inB.rBd w fun
   | .returned v,w'=>K v w'
   | .panicked c,w'=>N c w'
   | .outgrown,_=>False:=by
 refine tK (nt:=14) (anA:=pR) (anB:=pO) (slots:=[3,5]) (e:=Env.puts (Env.puts (fun _=>none) [2,3,7] [.int .i64 s2,.pointer (some s3),s7]) [9] [.int .i64 p9]) (S:=fun _=>True) (Φ:=fun _ _ _=>False) (by rw [yK]; exact hsz) (vL [9] [.int .i64 p9] (by decide) (by rw [hsz]; decide) hag) ?_
 have e1:=AE s2 s3 s7 p9 l
 rw [e1]
 refine T.wp_mono _ ?_ (fun _ _ h=>h) h
 rintro lb vs w1 ⟨r,h1,h2,b3,b5,rfl,h3⟩
 refine ⟨r,h1,h2,?_⟩
 have e2:=z8 b3 b5 l
 rw [e2]
 exact h3
theorem zF (v2:Int):Array.map (fL (Env.puts (fun _=>none) [2] [.int .i64 v2])) Tryz.f29.results=#[.v (.int .i64 v2)]:=by kernel_rfl
theorem AX (a0_t:HB [.slice]) {w:World} {R:Ending→World→Prop} {Mid:List Value→World→Prop} (hsh:∀ vs w',Mid vs w'→∃ s2 s3 s7,vs=[.int .i64 s2,.pointer (some s3),s7])
  (h1:(lX a0_t).wp Tryz.prog (fun _=>True) (fun _ vs w'=>Mid vs w') (fun _ _=>False) w)
  (h2:∀ (s2:Int) (s3:Addr) (s7:Value) w',Mid [.int .i64 s2,.pointer (some s3),s7] w'→∃ gf lb,s7=.func (.func gf) #[] lb∧(∀ args w,(callFunc gf args).run Tryz.prog w=.ok (.enter gf args) w) ∧
   ∀ (tmps:Array Value) (fid:FuncId),tmps.size=14→(∀ s v,(Env.puts (fun _=>none) [2,3,7] [.int .i64 s2,.pointer (some s3),s7]) s=some v→tmps.getD s undef=v.val) →
    Calls Tryz.prog gf (#[.func (.yield (w'.heap.size+1)) #[] #[]]++lb) ((w'.alloc (.deferred (some []))).alloc (.loop { state:=.ready,pending:=none,fn:=fid,tmps:=tmps,params:=#[8,9],assign:=(bH Tryz.f29).rgt.rgt.lft.rgt.inB.rAs,body:=(bH Tryz.f29).rgt.rgt.lft.rgt.inB.rBd,defers:=w'.heap.size })) fun e w3 =>
     ∃ v r,e=.returned v∧w3.heap[w'.heap.size+1]? = some (.loop r)∧r.state≠.busy ∧
      (r.pending=none∧(ml s2 s3 s7).wp Tryz.prog (fun _=>True) (fun _ vs5 w5=>∃ (v2:Int),vs5=[.int .i64 v2]∧qK Tryz.prog #[.v (.int .i64 v2)] w'.heap.size R w5) (fun _ _=>False) (w3.putObj (w'.heap.size+1) (.loop { r with state:=.exhausted })))):Calls Tryz.prog nX #[.agg #[.slice a0_t.1.1 a0_t.1.2.1 a0_t.1.2.2]] w R:=by
 refine F9 (args:=[.agg #[.slice a0_t.1.1 a0_t.1.2.1 a0_t.1.2.2]]) (c1:=(bH Tryz.f29).lft) (c2:=(bH Tryz.f29).rgt.lft) (c3:=(bH Tryz.f29).rgt.rgt.lft.lft) (c4:=(bH Tryz.f29).rgt.rgt.rgt) (asn:=(bH Tryz.f29).rgt.rgt.lft.rgt.inB.rAs) (bd:=(bH Tryz.f29).rgt.rgt.lft.rgt.inB.rBd) (bi:=0) (g:=7) (ps:=#[8,9]) (rs:=[2]) (slots:=[2,3,7]) (an1:=pz) (an2:=pY) (an3:=pX) (an4:=pk) (Mid:=Mid) Tryz.func29 rfl (Nat.le_of_ble_eq_true rfl) (by decide) (by kernel_rfl) ?_ ?_
 ·have e:=AY a0_t
  exact e▸h1
 ·intro vs w' hM
  obtain ⟨s2,s3,s7,rfl⟩:=hsh vs w' hM
  obtain ⟨gf,lb,hg,hc,hall⟩:=h2 s2 s3 s7 w' hM
  subst hg
  refine ⟨gf,lb,rfl,hc,fun tmps fid h3 h4=>Calls.mono (hall tmps fid h3 h4) ?_⟩
  rintro e w3 ⟨v,r,h5,h6,h7,h8,h9⟩
  refine ⟨v,r,h5,h6,h7,h8,?_⟩
  rintro ⟨lo,hi,D,K,rd⟩ hlo hhi hrd
  obtain rfl:lo=0:=hlo
  obtain rfl:hi=14:=hhi
  obtain rfl:rd=none:=hrd
  have e4:=z1 s2 s3 (.func (.func gf) #[] lb) D K
  refine T.wp_mono _ ?_ (fun _ _ h=>h) (e4▸h9)
  rintro i vs5 w5 ⟨v2,rfl,h10⟩
  have e5:=zF v2
  rw [e5]
  exact h10
def Cx:An :=
 .s (.r [some tA,none]) (.s (.r [some tA]) (.s (.s (.r [some (.c (.agg [.slice])),some (.tup [.b (.int .i64),.b (.int .i64)]),none,none,none,none,none]) (.s (.r [none,none]) (.c (.s (.r [none,some ah,none,some ah,some tU]) (.s (.r [none,some ah,none,none]) (.j [] (.b (.l [(24,.b (.int .i64))] (.s (.r [none]) (.s (.c (.x) (.x)) (.s (.b (.s (.r [none,some tA,some (.c (.agg [.int .i64,.str,.int .i64,.slice,.int .i64])),some tA,none,some tU]) (.s (.r [none,some ah,none,none]) (.b (.l [(32,.b (.int .i64))] (.s (.r [none]) (.s (.c (.x) (.x)) (.s (.b (.s (.r [some tA,some tI,none]) (.d (.q 0 (some ah) (.q 1 none (.q 2 (some ah) (.q 3 none (.q 4 (some tA) (.q 5 (some tI) (.q 6 none (.q 7 (some tA) (.l 8 (some tU) (.e))))))))))))) (.r [none,none]))))))))) (.r [none,none]))))))))) (.x)))) (.s (.r [none,none]) (.x))))
def oA (a0_t:HB [.slice]):T :=
 .op (cJ ap (.agg #[.slice a0_t.1.1 a0_t.1.2.1 a0_t.1.2.2])) tA fun r1 =>
 .op (bj aM) tA fun r2 =>
 .op (ai ap (.pointer (some r1))) (.c (.agg [.slice])) fun r3 =>
 .op (aa nP #[.agg #[.slice r3.1.1 r3.1.2.1 r3.1.2.2]]) (.tup [.b (.int .i64),.b (.int .i64)]) fun r4 =>
 .ite ((r4.2.1:Int)==0) (
 .op (ai aw (.pointer (some r1))) ah fun r5 =>
 .op (IY aM (.int .i64 (r5.2.1:Int)) (.int .i64 (r5.2.1:Int))) ah fun r6 =>
 .op (aW aM (.pointer (some r2)) (.slice r6.1 r6.2.1 r6.2.2)) tU fun _ =>
 .op (ai aw (.pointer (some r1))) ah fun r8 =>
 .join 0 [] (
 .loop 1 [.b (.int .i64)] [.int .i64 0] fun x9 =>
 .ite (decide ((x9.1:Int) < (r8.2.1:Int))) (
 .op (aR aw (.slice r8.1 r8.2.1 r8.2.2) (.int .i64 x9.1)) tA fun r10 =>
 .op (ai bz (.pointer (some r10))) (.c (.agg [.int .i64,.str,.int .i64,.slice,.int .i64])) fun r11 =>
 .op (bj bz) tA fun r12 =>
 .op (aW bz (.pointer (some r12)) (.agg #[.int .i64 r11.1,.string r11.2.1,.int .i64 r11.2.2.1,.slice r11.2.2.2.1.1 r11.2.2.2.1.2.1 r11.2.2.2.1.2.2,.int .i64 r11.2.2.2.2.1])) tU fun _ =>
 .op (ai aM (.pointer (some ⟨r12.block,r12.off+3,none⟩))) ah fun r14 =>
 .loop 2 [.b (.int .i64)] [.int .i64 0] fun x15 =>
 .ite (decide ((x15.1:Int) < (r14.2.1:Int))) (
 .op (aR aM (.slice r14.1 r14.2.1 r14.2.2) (.int .i64 x15.1)) tA fun r16 =>
 .op (ai ak (.pointer (some r16))) tI fun r17 =>
 .draw <|
 .opq (ai aM (.pointer (some r2))) ah fun r18 =>
 .opq (ai aM (.pointer (some r2))) ah fun r19 =>
 .opq (aR aM (.slice r19.1 r19.2.1 r19.2.2) (.int .i64 x9.1)) tA fun r20 =>
 .opq (ai ak (.pointer (some r20))) tI fun r21 =>
 .opq (aR aM (.slice r18.1 r18.2.1 r18.2.2) (.int .i64 r17)) tA fun r22 =>
 .op (aW ak (.pointer (some r22)) (.int .i64 (IntKind.i64.wrap (r21+1)))) tU fun _ =>
 .out 2 [.int .i64 (IntKind.i64.wrap (x15.1+1))]) (
 .out 1 [.int .i64 (IntKind.i64.wrap (x9.1+1))])) (
 .out 0 [])) fun x24 =>
 .ret #[.v (.func (.func dC) #[] #[.pointer (some r2)])]) (
 .ret #[.v (.func (.func dC) #[] #[.pointer (some r2)])])
theorem Da (a0_t:HB [.slice]):bh Tryz.prog Tryz.f48 Cx [.agg #[.slice a0_t.1.1 a0_t.1.2.1 a0_t.1.2.2]]=oA a0_t:=by kernel_rfl
theorem Dw {ε σ β:Type} {I:av ε σ} {t:Ty} {s:Sp ε σ β} {Rel:β→t.den→al→Fact} {Γ:List Fact} (a0_t:HB [.slice]) (h:Sim Tryz.prog I t Rel noLabel none (oA a0_t) s [] Γ):MeetsO Tryz.prog I (aa o4 #[.agg #[.slice a0_t.1.1 a0_t.1.2.1 a0_t.1.2.2]]) t s Rel Γ :=
 aj (args:=[.agg #[.slice a0_t.1.1 a0_t.1.2.1 a0_t.1.2.2]]) Tryz.func48 rfl rfl (Nat.le_of_ble_eq_true rfl) (by rw [Da]; exact h)
def xv:An :=
 .s (.r [some ah,none,none]) (.b (.l [(7,.b (.int .i64))] (.s (.r [none]) (.s (.c (.x) (.x)) (.s (.b (.s (.r [none,some tA,some tI,none,none]) (.s (.r [none,none,none,some tB,none]) (.c (.x) (.x))))) (.r [none,none]))))))
def lR (a0_yield:Value) (a1_a1:Addr):T :=
 .op (ai aM (.pointer (some a1_a1))) ah fun r1 =>
 .loop 0 [.b (.int .i64)] [.int .i64 0] fun x2 =>
 .ite (decide ((x2.1:Int) < (r1.2.1:Int))) (
 .op (aR aM (.slice r1.1 r1.2.1 r1.2.2) (.int .i64 x2.1)) tA fun r3 =>
 .op (ai ak (.pointer (some r3))) tI fun r4 =>
 .op (aK a0_yield #[.int .i64 x2.1,.int .i64 r4]) tB fun r5 =>
 .ite (!r5) (
 .ret #[]) (
 .out 0 [.int .i64 (IntKind.i64.wrap (x2.1+1))])) (
 .ret #[])
theorem Au (a0_yield:Value) (a1_a1:Addr):bh Tryz.prog Tryz.f80 xv [a0_yield,.pointer (some a1_a1)]=lR a0_yield a1_a1:=by kernel_rfl
theorem zW {ε σ β:Type} {I:av ε σ} {t:Ty} {s:Sp ε σ β} {Rel:β→t.den→al→Fact} {Γ:List Fact} (a0_yield:Value) (a1_a1:Addr) (h:Sim Tryz.prog I t Rel noLabel none (lR a0_yield a1_a1) s [] Γ):MeetsO Tryz.prog I (aa dC #[a0_yield,.pointer (some a1_a1)]) t s Rel Γ :=
 aj (args:=[a0_yield,.pointer (some a1_a1)]) Tryz.func80 rfl rfl (Nat.le_of_ble_eq_true rfl) (by rw [Au]; exact h)
end
end Go.Proofs.YtjlgcpgjdgeejaaGreatDoor
end

section
namespace Go.Proofs.YtjlgcpgjdgeejaaGreatDoor
open Go
set_option linter.unusedSimpArgs false
set_option linter.unusedVariables false
set_option linter.constructorNameAsVariable false
set_option maxRecDepth 100000
theorem t8 (ns:List FN):∀ (f:Nat) (st:List (Nat × Nat)) (n:Nat),(∀ i,i < n→eG ns i=true)→(iL ns f st n).2.1=0→∀ i,i < ns.length→eG ns i=true
 | 0,st,n,_,h=>by cases h
 | f+1,[],n,hn,h=>by
  have e:iL ns (f+1) [] n=if n < ns.length then ((n:Int),7,()) else (-1,0,()):=rfl
  rw [e] at h
  by_cases hl:n < ns.length
  ·rw [if_pos hl] at h; cases h
  ·exact fun i hi=>hn i (by omega)
 | f+1,(a,k)::r,n,hn,h=>by
  have e:iL ns (f+1) ((a,k)::r) n=if k=(fa ns a).length then iL ns f r n
      else if (fa ns a).getD k 0=(n:Int) then
       if eG ns n then iL ns f ((n,0)::(a,k+1)::r) (n+1) else ((n:Int),7,())
      else ((a:Int),7,()):=rfl
  rw [e] at h
  split at h
  ·exact t8 ns f r n hn h
  ·split at h
   ·split at h
    ·rename_i hf
     exact t8 ns f _ (n+1) (fun i hi=>by
      rcases Nat.lt_or_ge i n with h1 | h1
      ·exact hn i h1
      ·obtain rfl:i=n:=by omega
       exact hf) h
    ·cases h
   ·cases h
theorem Fe {ns:List FN} (h:(ej ns).2.1=0):∀ i,i < ns.length→eG ns i=true:=by
 unfold ej at h
 split at h
 ·cases h
 ·split at h
  ·rename_i hf
   exact t8 ns _ _ 1 (fun i hi=>by
    obtain rfl:i=0:=by omega
    exact hf) h
  ·cases h
theorem j4 (ls:List Int) (i:Nat):(rows bS ls)[i]? = (ls[i]?).map (Value.int .i64):=by
 have:rows bS ls=ls.map (Value.int .i64):=by
  induction ls with
  | nil=>rfl
  | cons x l ih=>rw [eT,ih]; rfl
 rw [this,List.getElem?_map]
theorem qw (ls:List Int):(rows bS ls).length=ls.length:=by rw [ce kL,Nat.one_mul]
theorem ES (ls:List Int) (i:Nat) (v:Int) (h:i < ls.length):bB (rows bS ls) i [.int .i64 v]=rows bS (ls.set i v):=by
 apply List.ext_getElem?
 intro j
 rw [j4,List.getElem?_set]
 unfold bB
 have hl:=qw ls
 rcases Nat.lt_trichotomy j i with hj | hj | hj
 ·rw [List.append_assoc,List.getElem?_append_left (by rw [List.length_take]; omega),List.getElem?_take,if_pos hj,j4,if_neg (by omega)]
 ·subst hj
  rw [List.append_assoc,List.getElem?_append_right (by rw [List.length_take]; omega),List.length_take,Nat.min_eq_left (by omega),Nat.sub_self,if_pos rfl,if_pos h]
  rfl
 ·rw [List.getElem?_append_right (by rw [List.length_append,List.length_take]; simp; omega),List.length_append,List.length_take,List.getElem?_drop,j4,if_neg (by omega)]
  congr 2
  simp
  omega
theorem IP {L:al} {Γ:List Fact} (n:Nat) (hn:n≤1099511627776):Loc PG (IY aM (.int .i64 n) (.int .i64 n)) ah L Γ fun y L' Γ'=>∃ g,y=(some ⟨g,0,none⟩,n,n)∧L'=(g,aq ak (rows bS (List.replicate n 0)))::L∧Γ'=Γ :=
 Loc.val fun r w F H hF hsp=>by
  obtain ⟨h2,inf,h3,h4⟩:=om (P:=PG) (t:=aM) (e:=ak) (n:=1) (by kernel_rfl)
  have hz:inf.zero=some (.int .i64 0):=by
   have h:(PG.info? ak).bind (·.zero)=some (.int .i64 0):=by kernel_rfl
   rw [h3] at h; exact h
  have hb:inf.bytes=8:=by
   have h:(PG.info? ak).map (·.bytes)=some 8:=by kernel_rfl
   rw [h3] at h; exact Option.some.inj h
  have hrun:=run_make (P:=PG) w aM ak inf (.int .i64 0) h2 h3 hz .i64 .i64 n n (by omega) (Int.le_refl _) (by rw [hb]; omega) (by omega)
  have hc:(.cells (madeCells (Value.int .i64 0).cells ((n:Int).toNat * inf.size)) ak:Obj)=aq ak (rows bS (List.replicate n 0)):=by
   unfold aq
   congr 1
   apply Array.toList_inj.1
   apply List.ext_getElem?
   intro j
   rw [h4,Int.toNat_natCast,Nat.mul_one]
   unfold madeCells
   rw [Array.toList_map,Array.toList_range,List.getElem?_map]
   show _=(rows bS (List.replicate n 0))[j]?
   rw [j4,List.getElem?_replicate]
   rcases Nat.lt_or_ge j n with h | h
   ·rw [List.getElem?_range h,if_pos h]
    show some ((Value.int IntKind.i64 0).cells[j % 1]!)=some (Value.int .i64 0)
    rw [Nat.mod_one]; rfl
   ·rw [List.getElem?_eq_none (by rw [List.length_range]; omega),if_neg (by omega)]; rfl
  rw [hc] at hrun
  refine ⟨(some ⟨w.heap.size,0,none⟩,n,n),w.alloc (aq ak (rows bS (List.replicate n 0))),_,Γ,F,.inl ?_,Heap.le.refl F,hF,(hsp.new _).perm List.perm_middle,w.heap.size,rfl,rfl,rfl⟩
  simp only [IY,cj,Sem.run_bind,hrun,Result.andThen_ok,Sem.run_pure]; rfl
section
variable {ε σ β:Type} {P:Program} {I:av ε σ} {t:Ty} {Rel:β→t.den→al→Fact} {Δ Δ':Labels ε σ β} {md:cK} {L:al} {Γ:List Fact} {st:σ} {run:Option (Res ε σ β)}
theorem Jf {l:Nat} {vs:List Value} (h:Δ' l=Δ l) (hk:au P I t Rel Δ md st (.out l vs) run L Γ):au P I t Rel Δ' md st (.out l vs) run L Γ:=by
 intro H r w F res S hs hΓ hsp hq
 have h1:=hk H r w F res S hs hΓ hsp hq
 simp only [T.wp] at h1 ⊢
 rw [h]
 exact h1
end
def jf (i:Nat) (ks:List Int) (ls:List Int):List Int:=ks.foldl (fun ls k=>ls.set k.toNat (IntKind.i64.wrap (ls.getD i 0+1))) ls
def io (ns:List FN):Nat→List Int
 | 0=>List.replicate ns.length 0
 | i+1=>jf i (fa ns i) (io ns i)
def jW (ns:List FN):List Int:=if (ej ns).2.1=0 then io ns ns.length else []
theorem rT (i:Nat):∀ (ks:List Int) (ls:List Int),(jf i ks ls).length=ls.length
 | [],ls=>rfl
 | k::ks,ls=>by
  show (jf i ks (ls.set k.toNat _)).length=_
  rw [rT i ks,List.length_set]
theorem nh (ns:List FN):∀ i,(io ns i).length=ns.length
 | 0=>List.length_replicate
 | i+1=>by
  show (jf i (fa ns i) (io ns i)).length=_
  rw [rT,nh ns i]
def HM (v:Value) (ls:List Int):Fact:=Fact.ex fun bb:Nat=>Fact.ex fun x:aI=>(Fact.prop (v=aT dC #[.pointer (some ⟨bb,0,none⟩)])).both ((Fact.at bb (aq aM [.slice x.1 x.2.1 x.2.2])).both (Rw 1 bS x ls))
theorem JB {ε:Type} (sl:aI) (es:List E):Meets PG (I0:av ε Unit) (aa o4 #[.agg #[.slice sl.1 sl.2.1 sl.2.2]]) tV (Pure.pure ()) (fun _ v=>HM v (jW (es.map (·.f)))) [cI sl es,MxF]:=by
 refine Dw (sl,()) (bc fun st=>?_)
 obtain rfl:st=():=rfl
 unfold oA
 refine ee (x:=sl) fun b=>?_
 refine bY (bF (z:=[.slice none 0 0]) (by kernel_rfl)) ?_
 rintro _ _ _ ⟨bv,rfl,rfl,rfl⟩
 refine gz (b:=b) (x:=sl) (List.mem_cons_self ..) ?_
 refine bW (Ir sl es) (fun A hA=>List.mem_cons_of_mem _ hA) ?_
 generalize hns:es.map (·.f)=ns
 have hlen:ns.length=es.length:=by rw [← hns,List.length_map]
 have hat:∀ (i:Nat) (e:E),es[i]? = some e→fa ns i=e.f.kids∧eG ns i=gQ ns e.f:=fun i e he=>by
  have:ns[i]? = some e.f:=by rw [← hns,List.getElem?_map,he]; rfl
  unfold fa eG
  rw [this]; exact ⟨rfl,rfl⟩
 refine aD (fun h=>?_) (fun h=>?_)
 ·have hc:(ej ns).2.1=0:=eq_of_beq h
  have hw:jW ns=io ns ns.length:=by unfold jW; rw [if_pos hc]
  rw [hw]
  have hfit:=Fe hc
  refine ln (b:=b) (x:=sl) (List.mem_cons_self ..) (sb (by repeat (first | exact mz | apply ms)) fun hl hle=>?_)
  rw [hl]
  refine bY (IP es.length hle) ?_
  rintro _ _ _ ⟨g,rfl,rfl,rfl⟩
  refine bY (a6 (L1:=[(g,aq ak (rows bS (List.replicate es.length 0)))]) (L2:=[]) (l:=[.slice none 0 0]) (T:=aM) (T0:=aM) (c:=false) rfl (by kernel_rfl) rfl (Nat.le_of_ble_eq_true rfl) (by simp [Value.cells,Value.oneCell'])) ?_
  rintro _ _ _ ⟨rfl,rfl⟩
  refine ln (b:=b) (x:=sl) (List.mem_cons_self ..) ?_
  refine eo (δ:=Unit) (ts:=[]) (fun _=>()) (fun _ L'=>Fact.prop (L'=[(g,aq ak (rows bS (io ns ns.length))),(bv,aq aM [.slice (some ⟨g,0,none⟩) es.length es.length])])) (fun _ _=>(Pure.pure ():Sp ε Unit Unit) ()) ?_ ?_
  ·refine fU (ts:=[.b (.int .i64)]) es.length (fun i=>((i:Int),())) (fun i L'=>Fact.prop (L'=[(g,aq ak (rows bS (io ns i))),(bv,aq aM [.slice (some ⟨g,0,none⟩) es.length es.length])])) rfl (fun F hF=>by show _=_; rw [← hlen]; rfl) fun i L' Δ' hi hΔ out=>?_
   refine br fun F0 hx=>?_
   obtain rfl:L'=_:=hx
   refine aD (fun h2=>?_) (fun h2=>?_)
   ·have hi':i < es.length:=by have h':(i:Int) < (sl.2.1:Int):=of_decide_eq_true h2; omega
    have hei:es[i]? = some es[i]:=List.getElem?_eq_getElem hi'
    obtain ⟨hk,hf⟩:=hat i _ hei
    have hfi:=hfit i (by omega)
    rw [hf] at hfi
    have hin:=BN hfi
    have hem:=List.mem_of_getElem? hei
    refine cA (A:=Rw 5 dJ sl es) (pD (by repeat (first | exact mz | apply ms))) ?_
    refine dd (φ:=es[i].ks.2.1=es[i].f.kids.length∧es[i].f.kids.length≤1099511627776) (fun F hF=>⟨((hF (cI sl es) (by repeat (first | exact mz | apply ms))).2.1 _ hem).1,((hF (cI sl es) (by repeat (first | exact mz | apply ms))).2.2.2 _ hem).1⟩) fun ⟨hkl,hkb⟩=>?_
    refine cA (A:=Rw 1 bS es[i].ks es[i].f.kids) (fun F hF=>(hF (cI sl es) (by repeat (first | exact mz | apply ms))).2.1 _ hem) ?_
    refine Ji (bs:=Jb) d7 (l:=es) (by repeat (first | exact mz | apply ms)) (by kernel_rfl) (by kernel_rfl) i rfl hei (es[i].f.kind,es[i].f.text,es[i].f.num,es[i].ks,es[i].f.pos,()) rfl ?_
    refine E6 (c:=true) (z:=[.int .i64 0,.string kE,.int .i64 0,.slice none 0 0,.int .i64 0]) (by kernel_rfl) (by kernel_rfl) rfl (by simp [Value.cells,Value.oneCell']) fun b2=>?_
    refine cA (A:=o0 b2 es[i]) (fun F hF=>hF _ (List.mem_cons_self ..)) ?_
    refine bK (b:=b2) (b1:=.slice) es[i].ks (List.mem_cons_self ..) (by kernel_rfl) rfl ?_
    refine fU (ts:=[.b (.int .i64)]) es[i].f.kids.length (fun j=>((j:Int),())) (fun j L'=>Fact.prop (L'=[(g,aq ak (rows bS (jf i (es[i].f.kids.take j) (io ns i)))),(bv,aq aM [.slice (some ⟨g,0,none⟩) es.length es.length])])) rfl (fun F hF=>rfl) fun j L' Δ'' hj hΔ' out2=>?_
    refine br fun F1 hx=>?_
    obtain rfl:L'=_:=hx
    have hll:(jf i (es[i].f.kids.take j) (io ns i)).length=es.length:=by rw [rT,nh,hlen]
    refine aD (fun h3=>?_) (fun h3=>?_)
    ·have hj':j < es[i].f.kids.length:=by have h':(j:Int) < (es[i].ks.2.1:Int):=of_decide_eq_true h3; omega
     refine li (l:=es[i].f.kids) j (by repeat (first | exact mz | apply ms)) rfl hj' ?_
     have hinj:=List.all_eq_true.1 hin _ (List.getElem_mem hj')
     have hstep:jf i (es[i].f.kids.take (j+1)) (io ns i)=(jf i (es[i].f.kids.take j) (io ns i)).set es[i].f.kids[j].toNat (IntKind.i64.wrap ((jf i (es[i].f.kids.take j) (io ns i)).getD i 0+1)):=by
      unfold jf
      rw [List.take_add_one,List.getElem?_eq_getElem hj',List.foldl_append]
      rfl
     revert hll hstep hinj
     generalize jf i (es[i].f.kids.take j) (io ns i)=ls
     generalize es[i].f.kids[j]=kid
     intro hll hinj hstep
     unfold inB at hinj
     rw [Bool.and_eq_true,decide_eq_true_eq,decide_eq_true_eq] at hinj
     obtain ⟨m,rfl⟩:=Int.eq_ofNat_of_zero_le hinj.1
     have hm:m < es.length:=by have:=hinj.2; omega
     rw [Int.toNat_natCast] at hstep
     have hix:∀ (q:Nat) (hq:q < es.length) (w:World),(aR aM (.slice (some ⟨g,0,none⟩) es.length es.length) (.int .i64 (q:Int))).run PG w=.ok (.value (tA.enc (⟨g,q,none⟩:Addr))) w:=fun q hq w=>by
      rw [fM (n:=1) (by kernel_rfl) (by omega) (by omega)]
      simp [Ty.enc,C.enc,B.enc,Addr.add]
      try (intro h; omega)
     refine dv [(g,aq ak (rows bS ls)),(bv,aq aM [.slice (some ⟨g,0,none⟩) es.length es.length])] (fun p hp=>hp) ?_
     refine vK (b1:=.slice) ((some ⟨g,0,none⟩,es.length,es.length):aI) (List.mem_cons_of_mem _ (List.mem_cons_self ..)) (by kernel_rfl) rfl rfl ?_
     refine vK (b1:=.slice) ((some ⟨g,0,none⟩,es.length,es.length):aI) (List.mem_cons_of_mem _ (List.mem_cons_self ..)) (by kernel_rfl) rfl rfl ?_
     refine gS (t1:=tA) (⟨g,i,none⟩:Addr) (PVal.pure fun w=>hix i hi' w) ?_
     refine vK (b1:=.int .i64) (ls.getD i 0) (List.mem_cons_self ..) (by kernel_rfl) rfl (by
      show (rows bS ls)[i]? = _
      rw [j4,List.getElem?_eq_getElem (by omega),List.getD_eq_getElem?_getD,List.getElem?_eq_getElem (by omega)]; rfl) ?_
     refine gS (t1:=tA) (⟨g,m,none⟩:Addr) (PVal.pure fun w=>hix m hm w) ?_
     refine bY (a6 (L1:=[]) (L2:=[(bv,aq aM [.slice (some ⟨g,0,none⟩) es.length es.length])]) (l:=rows bS ls) (T:=ak) (T0:=ak) (c:=false) rfl (by kernel_rfl) rfl (by rw [qw]; show m+1≤_; omega) (by simp [Value.cells,Value.oneCell'])) ?_
     rintro _ _ _ ⟨rfl,rfl⟩
     refine out2 hj' ?_ fun F hF=>?_
     ·show [Value.int .i64 (IntKind.i64.wrap ((j:Int)+1))]=[Value.int .i64 ((j+1:Nat):Int)]
      rw [aS (by omega) (by omega)]; rfl
     ·show [(g,aq ak (bB (rows bS ls) m [.int .i64 (IntKind.i64.wrap (ls.getD i 0+1))])),_]=_
      rw [ES _ _ _ (by omega),← hstep]
    ·have hj':j=es[i].f.kids.length:=by have h':¬ (j:Int) < (es[i].ks.2.1:Int):=of_decide_eq_false h3; omega
     subst hj'
     refine Jf (hΔ' 1 (by decide)) (out hi' ?_ fun F hF=>?_)
     ·show [Value.int .i64 (IntKind.i64.wrap ((i:Int)+1))]=[Value.int .i64 ((i+1:Nat):Int)]
      rw [aS (by omega) (by omega)]; rfl
     ·show _=_
      rw [List.take_length]
      show _=[(g,aq ak (rows bS (jf i (fa ns i) (io ns i)))),_]
      rw [hk]
   ·have hi':i=es.length:=by have h':¬ (i:Int) < (sl.2.1:Int):=of_decide_eq_false h2; omega
    subst hi'
    exact fy () ((hΔ 0 (by decide)).trans cn) rfl rfl fun F hF=>by rw [hlen]; rfl
  ·rintro ⟨⟩ L' ⟨⟩
   refine br fun F0 hx=>?_
   obtain rfl:L'=_:=hx
   refine kF (kF ?_)
   refine cY (t:=tV) () (aT dC #[.pointer (some ⟨bv,0,none⟩)]) rfl (fun r w F H _ _=>by rw [dj]; rfl) fun F hF=>?_
   refine ⟨bv,(some ⟨g,0,none⟩,es.length,es.length),rfl,hF _ (List.mem_cons_self ..),?_⟩
   refine Sl.rw kL (?_:(Sl 1 bS (some ⟨g,0,none⟩,es.length,es.length) (io ns ns.length)).p F)
   refine ⟨by show es.length=_; rw [nh,hlen],.inr ⟨⟨g,0,none⟩,rows bS (io ns ns.length),ak,rfl,rfl,hF (Fact.at g (aq ak (rows bS (io ns ns.length)))) (by repeat (first | exact mz | apply ms)),?_⟩⟩
   rw [List.drop_zero,List.take_of_length_le (by rw [qw,nh]; omega)]
 ·have hc:¬ (ej ns).2.1=0:=fun h0=>by rw [h0] at h; cases h
  have hw:jW ns=[]:=by unfold jW; rw [if_neg hc]
  rw [hw]
  refine kF ?_
  refine cY (t:=tV) () (aT dC #[.pointer (some ⟨bv,0,none⟩)]) rfl (fun r w F H _ _=>by rw [dj]; rfl) fun F hF=>?_
  exact ⟨bv,(none,0,0),rfl,hF _ (List.mem_cons_self ..),rfl,.inl rfl⟩
end Go.Proofs.YtjlgcpgjdgeejaaGreatDoor
end

section
namespace Go.Proofs.YtjlgcpgjdgeejaaGreatDoor
open Go
set_option linter.unusedSimpArgs false
set_option linter.unusedVariables false
set_option linter.constructorNameAsVariable false
set_option maxRecDepth 100000
def gn {σ:Type} (yS:Int→Int→Sp Empty σ Bool):Nat→List Int→Sp Empty σ Unit
 | _,[]=>Pure.pure ()
 | i,l::ls=>yS (i:Int) l>>=fun c=>if !c then Pure.pure () else gn yS (i+1) ls
theorem IW {σ:Type} (I:av Empty σ) (x:aI) (ls:List Int) (hls:ls.length≤1099511627776) (bb:Nat) (yv:Value) (yS:Int→Int→Sp Empty σ Bool) (Γ0:List Fact)
  (hy:∀ i l:Int,Meets PG I (aK yv #[.int .i64 i,.int .i64 l]) tB (yS i l) aJ Γ0) :
  Meets PG I (aa dC #[yv,.pointer (some ⟨bb,0,none⟩)]) tU (gn yS 0 ls) (fun _ _=>Fact.prop True) (Fact.at bb (aq aM [.slice x.1 x.2.1 x.2.2])::Rw 1 bS x ls::Γ0):=by
 have bindN:∀ {α β:Type} {x:Sp Empty σ α} {f:α→Sp Empty σ β} {st:σ},x st=none→(x>>=f) st=none:=fun h=>by
  show Sp.bind _ _ _=none
  unfold Sp.bind; rw [h]
 have bindO:∀ {α β:Type} {x:Sp Empty σ α} {f:α→Sp Empty σ β} {st st':σ} {a:α},x st=some (.ok a st')→(x>>=f) st=f a st':=fun h=>by
  show Sp.bind _ _ _=_
  unfold Sp.bind; rw [h]
 refine zW yv ⟨bb,0,none⟩ (bc fun st=>?_)
 unfold lR
 refine uo (b1:=.slice) x (List.mem_cons_self ..) (by kernel_rfl) rfl ?_
 refine vW (n:=1) (f:=bS) (x:=x) (l:=ls) (by repeat (first | exact mz | apply ms)) fun hl=>?_
 refine sZ (ts:=[.b (.int .i64)]) (δ:=Nat) (fun i=>((i:Int),())) (fun i L'=>Fact.prop (i≤ls.length∧L'=[])) (fun n i st=>if n=ls.length - i+1 then gn yS i (ls.drop i) st else none) (ls.length+1) 0 rfl (by simp) (fun d st=>if_neg (by omega)) (fun F hF=>⟨Nat.zero_le _,rfl⟩) fun n i L' st=>?_
 refine br fun F0 hx=>?_
 obtain ⟨hi,rfl⟩:=hx
 by_cases hg:n+1=ls.length - i+1
 case neg=>exact cq (if_neg hg)
 rw [if_pos hg]
 refine aD (fun h=>?_) (fun h=>?_)
 ·have hi':i < ls.length:=by have h':(i:Int) < (x.2.1:Int):=of_decide_eq_true h; omega
  rw [List.drop_eq_getElem_cons hi']
  refine li (l:=ls) i (by repeat (first | exact mz | apply ms)) rfl hi' ?_
  have hdef:gn yS i (ls[i]::ls.drop (i+1))=(yS (i:Int) ls[i]>>=fun c=>if !c then Pure.pure () else gn yS (i+1) (ls.drop (i+1))):=rfl
  rw [hdef]
  refine fx (hy i ls[i]) (fun A hA=>by repeat (first | exact hA | apply List.mem_cons_of_mem)) (fun h=>bindN h) (fun e=>e.elim) fun y c st' h2=>?_
  rw [bindO h2]
  refine br fun F2 hx=>?_
  obtain rfl:c=y:=(show y=c from hx).symm
  cases c with
  | false =>
   refine aD (fun _=>?_) (fun h=>by cases h)
   exact cY (t:=tU) () () rfl (fun r w F H _ _=>by rw [fJ]; rfl) fun F hF=>trivial
  | true =>
   refine aD (fun h=>by cases h) (fun _=>?_)
   exact sO (l:=0) (n:=n) (ts:=[.b (.int .i64)]) (f:=fun i:Nat=>((i:Int),())) (J:=fun i L'=>Fact.prop (i≤ls.length∧L'=[])) (sp:=fun n i st=>if n=ls.length - i+1 then gn yS i (ls.drop i) st else none) (i+1) cn (by
    show [Value.int .i64 (IntKind.i64.wrap ((i:Int)+1))]=[Value.int .i64 ((i+1:Nat):Int)]
    rw [aS (by omega) (by omega)]; rfl) ((congrFun (if_neg (by decide)) st').trans (if_pos (by omega)).symm) fun F hF=>⟨by omega,rfl⟩
 ·have hi':i=ls.length:=by have h':¬ (i:Int) < (x.2.1:Int):=of_decide_eq_false h; omega
  rw [List.drop_of_length_le (by omega)]
  exact cY (t:=tU) () () rfl (fun r w F H _ _=>by rw [fJ]; rfl) fun F hF=>trivial
def BL (a b:Int):Int:=if a > b then a else b
def wZ (_ l:Int):Sp Empty Int Bool:=fun m=>some (.ok true (BL l m))
def GQ:Int→List Int→Int
 | m,[]=>m
 | m,l::ls=>GQ (BL l m) ls
theorem Cf:∀ (ls:List Int) (i:Nat) (m:Int),gn wZ i ls m=some (.ok () (GQ m ls))
 | [],i,m=>rfl
 | l::ls,i,m=>by
  show (wZ (i:Int) l>>=fun c=>if !c then Pure.pure () else gn wZ (i+1) ls) m=_
  show Sp.bind _ _ _=_
  unfold Sp.bind
  show gn wZ (i+1) ls (BL l m)=_
  rw [Cf ls]; rfl
def fG (ns:List FN):Int:=GQ 0 (jW ns)
noncomputable abbrev Hd:Code:=(bH Tryz.f29).rgt.rgt.lft.rgt.inB.rAs
noncomputable abbrev HF:Code:=(bH Tryz.f29).rgt.rgt.lft.rgt.inB.rBd
noncomputable def eR (fid:Nat) (tmps:Array Value) (D:Nat):Loop:={ state:=.ready,pending:=none,fn:=fid,tmps:=tmps,params:=#[8,9],assign:=Hd,body:=HF,defers:=D }
noncomputable def DI (l D b3 fid:Nat) (tmps:Array Value):av Empty Int where
 inv m H:=Fact.prop (H=(l,.loop (eR fid tmps D))::(D,.deferred (some []))::[(b3,aq ak [.int .i64 m])])
 err _ _:=False
theorem G5 {l D b3 fid:Nat} {s2:Int} {s7:Value} {tmps:Array Value} (hsz:tmps.size=14)
  (hag:∀ s v,(Env.puts (fun _=>none) [2,3,7] [.int .i64 s2,.pointer (some ⟨b3,0,none⟩),s7]) s=some v→tmps.getD s undef=v.val) (i e:Int) :
  Meets PG (DI l D b3 fid tmps) (aK (.func (.yield l) #[] #[]) #[.int .i64 i,.int .i64 e]) tB (wZ i e) aJ []:=by
 rintro r w F H m res hs hΓ hH hsp
 obtain rfl:H=_:=hH
 have hl:w.heap[l]? = some (.loop (eR fid tmps D)):=hsp.own _ _ (List.mem_cons_self ..)
 have hrun:(aK (.func (.yield l) #[] #[]) #[.int .i64 i,.int .i64 e]).run PG w =
   .ok (.round l fid ((#[8,9].zip #[.int .i64 i,.int .i64 e]).foldl (fun t (p,v)=>t.setIfInBounds p v) tmps) Hd HF) w:=by
  have h1:=run_yield (P:=PG) (args:=#[.int .i64 i,.int .i64 e]) hl rfl
  have h2:(aK (.func (.yield l) #[] #[]) #[.int .i64 i,.int .i64 e]).run PG w=(Instr.yield l #[.int .i64 i,.int .i64 e]).run PG w:=by
   simp [aK,Deferred.ofValue,invoke]
  rw [h2,h1]; rfl
 rw [hrun]
 show RoundIn Fence.wide 0 PG l fid _ Hd HF w _
 have hres:res=.ok true (BL e m):=(Option.some.inj hs).symm
 subst hres
 have hag8:∀ s v,(Env.puts (fun _=>none) [2,3,7] [.int .i64 s2,.pointer (some ⟨b3,0,none⟩),s7]) s=some v→(tmps.setIfInBounds 8 (.int .i64 i)).getD s undef=v.val:=fun s v h=>by
  rw [← hag s v h]
  have hs8:s≠8:=fun h8=>by
   subst h8
   rcases Ft [2,3,7] [.int .i64 s2,.pointer (some ⟨b3,0,none⟩),s7] (fun _=>none) 8 (by rw [h]; exact fun h=>by cases h) with h1 | h1
   ·simp at h1
   ·exact h1 rfl
  simp [Array.getD_eq_getD_getElem?,Array.getElem?_setIfInBounds_ne (Ne.symm hs8)]
 have e8:(#[8,9].zip #[Value.int .i64 i,.int .i64 e]).foldl (fun t (p,v)=>t.setIfInBounds p v) tmps=(#[9].zip #[Value.int .i64 e]).foldl (fun t (p,v)=>t.setIfInBounds p v) (tmps.setIfInBounds 8 (.int .i64 i)):=by
  simp
 rw [e8]
 refine zU s2 ⟨b3,0,none⟩ s7 e (tmps:=tmps.setIfInBounds 8 (.int .i64 i)) (by simpa using hsz) hag8 ?_
 unfold lW
 refine e7 (J:=fun vs L'=>Fact.prop (vs=[.pointer (some ⟨b3,0,none⟩),.int .i64 e]∧L'=(l,.loop (eR fid tmps D))::(D,.deferred (some []))::[(b3,aq ak [.int .i64 m])])) (Γ:=[]) (hZ fun F hF=>⟨rfl,rfl⟩) (fun _ h=>nomatch h) hsp ?_
 rintro vs L' F1 w1 hle1 ⟨rfl,rfl⟩ hS1
 refine ⟨eR fid tmps D,hS1.own _ _ (List.mem_cons_self ..),rfl,⟨b3,0,none⟩,e,rfl,?_⟩
 have hS2:=Split.putObj (L1:=[]) hS1 (.loop { eR fid tmps D with state:=.busy })
 unfold mn
 refine rx (J:=fun i vs L'=>Fact.prop (i=0∧L'=(l,.loop { eR fid tmps D with state:=.busy })::(D,.deferred (some []))::[(b3,aq ak [.int .i64 (BL e m)])])) (Γ:=[]) ?_ (fun _ h=>nomatch h) hS2 ?_
 ·refine a8 (cN (b1:=.int .i64) m (Rd.own (show (b3,aq ak [.int .i64 m])∈_ by simp)) (by kernel_rfl) rfl rfl) ?_
  rintro _ _ _ ⟨rfl,rfl,rfl⟩
  refine a8 (a6 (L1:=[(l,.loop { eR fid tmps D with state:=.busy }),(D,.deferred (some []))]) (L2:=[]) (l:=[.int .i64 m]) (T:=ak) (T0:=ak) (c:=false) rfl (by kernel_rfl) rfl (Nat.le_of_ble_eq_true rfl) (by simp [Value.cells,Value.oneCell'])) ?_
  rintro _ _ _ ⟨rfl,rfl⟩
  exact wI fun F hF=>⟨rfl,rfl⟩
 ·rintro i2 vs L' F2 w2 hle2 ⟨rfl,rfl⟩ hS3
  refine ⟨{ eR fid tmps D with state:=.busy },hS3.own _ _ (List.mem_cons_self ..),?_⟩
  rw [if_pos rfl]
  have hS4:=Split.putObj (L1:=[]) hS3 (.loop (eR fid tmps D))
  refine ⟨F2,hle1.trans hle2,_,[],true,rfl,rfl,?_,rfl,rfl⟩
  rw [List.append_nil]
  exact hS4
theorem Hg {ε σ:Type} (I:av ε σ) (sl:aI) (es:List E):Meets PG I (aa nX #[.agg #[.slice sl.1 sl.2.1 sl.2.2]]) tI (Pure.pure (fG (es.map (fun x:E=>x.f)))) aJ [cI sl es,MxF]:=by
 intro r w F H st res hs hΓ hi hsp
 have hres:res=.ok (fG (es.map (fun x:E=>x.f))) st:=(Option.some.inj hs).symm
 subst hres
 rw [eg Tryz.func29 rfl rfl]
 refine Calls.mono (AX (sl,()) (Mid:=fun vs w'=>∃ b3 bb x F',F.le F'∧vs=[.int .i64 0,.pointer (some ⟨b3,0,none⟩),aT dC #[.pointer (some ⟨bb,0,none⟩)]]∧F' bb=some (aq aM [.slice x.1 x.2.1 x.2.2])∧(Rw 1 bS x (jW (es.map (fun x:E=>x.f)))).p F'∧Split r w' ((b3,aq ak [.int .i64 0])::H) F')
  (R:=fun e w'=>match e with | .returned v=>Ends I tI (pl aJ) r F (.ok (fG (es.map (fun x:E=>x.f))) st) (.returned v) w' | _=>False) ?_ ?_ ?_) (fun e w' h=>by cases e<;>first | exact h | exact h.elim)
 ·rintro vs w' ⟨b3,bb,x,F',_,rfl,_⟩; exact ⟨_,_,_,rfl⟩
 ·unfold lX
  refine e7 (J:=fun vs L'=>Fact.ex fun b3:Nat=>Fact.ex fun v:Value=>(Fact.prop (vs=[.int .i64 0,.pointer (some ⟨b3,0,none⟩),v]∧L'=(b3,aq ak [.int .i64 0])::H)).both (HM v (jW (es.map (fun x:E=>x.f))))) (Γ:=[cI sl es,MxF]) (L:=H) ?_ hΓ hsp ?_
  ·refine a8 (CI _) ?_
   rintro _ _ _ ⟨b,rfl,rfl,rfl⟩
   refine a8 (bF (z:=[.int .i64 0]) (by kernel_rfl)) ?_
   rintro _ _ _ ⟨b3,rfl,rfl,rfl⟩
   refine a8 (a6 (L1:=[]) (l:=[.int .i64 0]) (T:=ak) (T0:=ak) (c:=false) rfl (by kernel_rfl) rfl (Nat.le_of_ble_eq_true rfl) (by simp [Value.cells,Value.oneCell'])) ?_
   rintro _ _ _ ⟨rfl,rfl⟩
   refine a8 (ft (bs:=[.slice]) (l:=[.slice sl.1 sl.2.1 sl.2.2]) (T0:=ap) (sl,()) (Rd.at (List.mem_cons_self ..)) (by kernel_rfl) rfl rfl) ?_
   rintro _ _ _ ⟨rfl,rfl,rfl⟩
   refine Ea (JB sl es) (fun A hA=>List.mem_cons_of_mem _ hA) fun v K=>sS (kp fun hK=>?_)
   have hK':K=[]:=hK
   subst hK'
   exact hZ fun F hF=>⟨b3,v,⟨rfl,rfl⟩,hF _ (List.mem_cons_self ..)⟩
  ·rintro vs L' F' w' hle ⟨b3,v,⟨rfl,rfl⟩,bb,x,rfl,hat,hr⟩ hS
   exact ⟨b3,bb,x,F',hle,rfl,hat,hr,hS⟩
 ·rintro s2 s3 s7 w1 ⟨b3,bb,x,F1,hle1,hv,hat,hr,hS⟩
  simp only [List.cons.injEq,Value.int.injEq,Value.pointer.injEq,Option.some.injEq,and_true,true_and] at hv
  obtain ⟨rfl,rfl,rfl⟩:=hv
  refine ⟨dC,#[.pointer (some ⟨bb,0,none⟩)],rfl,fun args w=>lZ Tryz.func80 rfl rfl,fun tmps fid hsz hag=>?_⟩
  have hD:Split r (w1.alloc (.deferred (some []))) ((w1.heap.size,.deferred (some []))::((b3,aq ak [.int .i64 0])::H)) F1:=hS.new _
  have hL:=hD.new (.loop (eR fid tmps w1.heap.size))
  rw [World.size_alloc] at hL
  have hS1:Split r ((w1.alloc (.deferred (some []))).alloc (.loop (eR fid tmps w1.heap.size))) (((w1.heap.size+1,.loop (eR fid tmps w1.heap.size))::(w1.heap.size,.deferred (some []))::[(b3,aq ak [.int .i64 0])])++H) F1:=hL
  have hm:=IW (DI (w1.heap.size+1) w1.heap.size b3 fid tmps) x (jW (es.map (fun x:E=>x.f))) ?_ bb (.func (.yield (w1.heap.size+1)) #[] #[]) wZ [] (fun i e=>G5 hsz hag i e)
  ·have hall:=Cf (jW (es.map (fun x:E=>x.f))) 0 0
   have h2:=hm (Split.give r H) _ F1 _ 0 _ hall (fun A hA=>by
    simp only [List.mem_cons,List.not_mem_nil,or_false] at hA
    rcases hA with rfl | rfl
    ·exact hat
    ·exact hr) rfl hS1.out
   rw [eg Tryz.func80 rfl rfl] at h2
   refine Calls.mono h2 fun e w3 he=>?_
   cases e with
   | panicked c=>obtain ⟨F',hle,H',K1,x,hv,_⟩:=he; cases hv
   | outgrown=>exact he.elim
   | returned v =>
   obtain ⟨F3,hle3,H',K1,x3,hv,hH',hS3,hK1,_⟩:=he
   obtain rfl:H'=_:=hH'
   have hK1':K1=[]:=hK1
   subst hK1'
   rw [List.append_nil] at hS3
   have hS4:Split r w3 (((w1.heap.size+1,.loop (eR fid tmps w1.heap.size))::(w1.heap.size,.deferred (some []))::[(b3,aq ak [.int .i64 (fG (es.map (fun x:E=>x.f)))])])++H) F3:=Split.back hS1 hS3
   have hl3:w3.heap[w1.heap.size+1]? = some (.loop (eR fid tmps w1.heap.size)):=hS4.own _ _ (List.mem_cons_self ..)
   refine ⟨v,eR fid tmps w1.heap.size,rfl,hl3,fun h=>(by cases h),rfl,?_⟩
   have hS5:=Split.putObj (L1:=[]) hS4 (.loop { eR fid tmps w1.heap.size with state:=.exhausted })
   unfold ml
   refine e7 (J:=fun vs L'=>Fact.prop (vs=[.int .i64 (fG (es.map (fun x:E=>x.f)))]∧L'=((w1.heap.size+1,.loop { eR fid tmps w1.heap.size with state:=.exhausted })::(w1.heap.size,.deferred (some []))::[(b3,aq ak [.int .i64 (fG (es.map (fun x:E=>x.f)))])])++H)) (Γ:=[]) ?_ (fun _ h=>nomatch h) hS5 ?_
   ·refine a8 (cN (b1:=.int .i64) (fG (es.map (fun x:E=>x.f))) (Rd.own (show (b3,aq ak [.int .i64 (fG (es.map (fun x:E=>x.f)))])∈_ by simp)) (by kernel_rfl) rfl rfl) ?_
    rintro _ _ _ ⟨rfl,rfl,rfl⟩
    exact hZ fun F hF=>⟨rfl,rfl⟩
   ·rintro vs L' F5 w5 hle5 ⟨rfl,rfl⟩ hS6
    refine ⟨fG (es.map (fun x:E=>x.f)),rfl,hS6.own _ _ (List.mem_cons_of_mem _ (List.mem_cons_self ..)),.int .i64 (fG (es.map (fun x:E=>x.f))),by rw [dj],?_⟩
    have hS7:=Split.putObj (L1:=[(w1.heap.size+1,.loop { eR fid tmps w1.heap.size with state:=.exhausted })]) hS6 (.deferred none)
    refine ⟨F5,hle1.trans (hle3.trans hle5),H,[],fG (es.map (fun x:E=>x.f)),rfl,(I.inv st H).mono _ _ (hle1.trans (hle3.trans hle5)) hi,?_,rfl,rfl⟩
    rw [List.append_nil]
    exact hS7.sub (List.sublist_append_right [(w1.heap.size+1,Obj.loop { eR fid tmps w1.heap.size with state:=.exhausted }),(w1.heap.size,.deferred none),(b3,aq ak [.int .i64 (fG (es.map (fun x:E=>x.f)))])] H)
  ·have hb:=(hΓ (cI sl es) (List.mem_cons_self ..)).2.2.1
   unfold jW
   split
   ·rw [nh,List.length_map]; exact hb
   ·decide
end Go.Proofs.YtjlgcpgjdgeejaaGreatDoor
end

section
namespace Go.Proofs.YtjlgcpgjdgeejaaGreatDoor
open Go
set_option linter.unusedSimpArgs false
set_option linter.unusedVariables false
set_option linter.constructorNameAsVariable false
set_option maxRecDepth 1000000
def nV:Nat→ByteArray
 | 0=>kE
 | i+1=>nV i++kA_lt
def gF (bl:Bool):Nat→ByteArray
 | 0=>kE
 | i+1=>if bl then gF bl i++k_gt++k_sp else gF bl i++k_gt
def zc (bl:Bool) (n:Nat):ByteArray:=nV n++kB++gF bl n
def fI:List FN→Nat
 | []=>0
 | x::l=>(if x.kind==80 then 1 else 0)+fI l
def bA (bl:Bool) (n:Nat):Bool:=match iY 60 (zc bl n) 2 with
 | some (.inr ns)=>fI ns==n+1&&fG ns==2 * (n:Int)+1&&decide (ns.length≤1000)&&ns.all fun x=>decide (x.kids.length≤1000)&&decide (x.text.size≤1000)
 | _=>false
end Go.Proofs.YtjlgcpgjdgeejaaGreatDoor
end
