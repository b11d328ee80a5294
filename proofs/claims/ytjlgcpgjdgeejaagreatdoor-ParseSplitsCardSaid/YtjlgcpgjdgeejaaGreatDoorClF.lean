/- A part of the claim: general tools, trees of the program, and what its functions come to (SpF1 to SpF2). Conditions: as its theorems say. -/
import Derived.Test.YtjlgcpgjdgeejaaGreatDoorClE

section
namespace Go.Proofs.YtjlgcpgjdgeejaaGreatDoor
open Go
set_option linter.unusedSimpArgs false
set_option linter.unusedVariables false
set_option linter.constructorNameAsVariable false
set_option maxRecDepth 1000000
theorem LJ:bA true 0=true:=by kernel_rfl
theorem LP:bA false 0=true:=by kernel_rfl
theorem Ls:bA true 1=true:=by kernel_rfl
theorem LA:bA false 1=true:=by kernel_rfl
theorem LK:bA true 2=true:=by kernel_rfl
theorem LI:bA false 2=true:=by kernel_rfl
theorem Ly:bA true 3=true:=by kernel_rfl
theorem LM:bA false 3=true:=by kernel_rfl
theorem LH:bA true 4=true:=by kernel_rfl
theorem Lu:bA false 4=true:=by kernel_rfl
theorem LQ:bA true 5=true:=by kernel_rfl
theorem Lz:bA false 5=true:=by kernel_rfl
theorem LC:bA true 6=true:=by kernel_rfl
theorem LL:bA false 6=true:=by kernel_rfl
theorem LE:bA true 7=true:=by kernel_rfl
theorem Lv:bA false 7=true:=by kernel_rfl
theorem LN:bA true 8=true:=by kernel_rfl
theorem LF:bA false 8=true:=by kernel_rfl
theorem LD:bA true 9=true:=by kernel_rfl
theorem Lo:bA false 9=true:=by kernel_rfl
theorem KD:bA true 10=true:=by kernel_rfl
theorem Ku:bA false 10=true:=by kernel_rfl
theorem Lf:bA true 11=true:=by kernel_rfl
theorem Kz:bA false 11=true:=by kernel_rfl
theorem KL:bA true 12=true:=by kernel_rfl
theorem KC:bA false 12=true:=by kernel_rfl
theorem Kr:bA true 13=true:=by kernel_rfl
theorem Kt:bA false 13=true:=by kernel_rfl
theorem Ko:bA true 14=true:=by kernel_rfl
theorem J7:bA false 14=true:=by kernel_rfl
theorem Ka:bA true 15=true:=by kernel_rfl
theorem J8:bA false 15=true:=by kernel_rfl
theorem KX:bA true 16=true:=by kernel_rfl
theorem Kb:bA false 16=true:=by kernel_rfl
theorem Kj:bA true 17=true:=by kernel_rfl
theorem Kx:bA false 17=true:=by kernel_rfl
theorem Kf:bA true 18=true:=by kernel_rfl
theorem KB:bA false 18=true:=by kernel_rfl
theorem JU:bA true 19=true:=by kernel_rfl
theorem KE:bA false 19=true:=by kernel_rfl
theorem K7:bA true 20=true:=by kernel_rfl
theorem Kv:bA false 20=true:=by kernel_rfl
theorem J3:bA true 21=true:=by kernel_rfl
theorem KQ:bA false 21=true:=by kernel_rfl
end Go.Proofs.YtjlgcpgjdgeejaaGreatDoor
end

section
namespace Go.Proofs.YtjlgcpgjdgeejaaGreatDoor
open Go
set_option linter.unusedSimpArgs false
set_option linter.unusedVariables false
set_option linter.constructorNameAsVariable false
set_option maxRecDepth 1000000
theorem KY:bA true 37=true:=by kernel_rfl
theorem J1:bA false 37=true:=by kernel_rfl
end Go.Proofs.YtjlgcpgjdgeejaaGreatDoor
end

section
namespace Go.Proofs.YtjlgcpgjdgeejaaGreatDoor
open Go
set_option linter.unusedSimpArgs false
set_option linter.unusedVariables false
set_option linter.constructorNameAsVariable false
set_option maxRecDepth 1000000
theorem Ks:bA true 38=true:=by kernel_rfl
theorem KA:bA false 38=true:=by kernel_rfl
end Go.Proofs.YtjlgcpgjdgeejaaGreatDoor
end

section
namespace Go.Proofs.YtjlgcpgjdgeejaaGreatDoor
open Go
set_option linter.unusedSimpArgs false
set_option linter.unusedVariables false
set_option linter.constructorNameAsVariable false
set_option maxRecDepth 1000000
theorem KZ:bA true 39=true:=by kernel_rfl
theorem KI:bA false 39=true:=by kernel_rfl
end Go.Proofs.YtjlgcpgjdgeejaaGreatDoor
end

section
namespace Go.Proofs.YtjlgcpgjdgeejaaGreatDoor
open Go
set_option linter.unusedSimpArgs false
set_option linter.unusedVariables false
set_option linter.constructorNameAsVariable false
set_option maxRecDepth 1000000
theorem J6:bA true 40=true:=by kernel_rfl
theorem Kl:bA false 40=true:=by kernel_rfl
end Go.Proofs.YtjlgcpgjdgeejaaGreatDoor
end

section
namespace Go.Proofs.YtjlgcpgjdgeejaaGreatDoor
open Go
set_option linter.unusedSimpArgs false
set_option linter.unusedVariables false
set_option linter.constructorNameAsVariable false
set_option maxRecDepth 1000000
theorem La:bA true 22=true:=by kernel_rfl
theorem Ki:bA false 22=true:=by kernel_rfl
theorem Kg:bA true 23=true:=by kernel_rfl
theorem KV:bA false 23=true:=by kernel_rfl
theorem Lg:bA true 24=true:=by kernel_rfl
theorem KK:bA false 24=true:=by kernel_rfl
theorem J5:bA true 25=true:=by kernel_rfl
theorem KF:bA false 25=true:=by kernel_rfl
end Go.Proofs.YtjlgcpgjdgeejaaGreatDoor
end
