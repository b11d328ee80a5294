/- A part of the claim: general tools, trees of the program, and what its functions come to (SpF3 to SpF9). Conditions: as its theorems say. -/
import Derived.Test.YtjlgcpgjdgeejaaGreatDoorClF

section
namespace Go.Proofs.YtjlgcpgjdgeejaaGreatDoor
open Go
set_option linter.unusedSimpArgs false
set_option linter.unusedVariables false
set_option linter.constructorNameAsVariable false
set_option maxRecDepth 1000000
theorem J9:bA true 26=true:=by kernel_rfl
theorem Kh:bA false 26=true:=by kernel_rfl
theorem J0:bA true 27=true:=by kernel_rfl
theorem Lh:bA false 27=true:=by kernel_rfl
theorem JT:bA true 28=true:=by kernel_rfl
theorem Kw:bA false 28=true:=by kernel_rfl
end Go.Proofs.YtjlgcpgjdgeejaaGreatDoor
end

section
namespace Go.Proofs.YtjlgcpgjdgeejaaGreatDoor
open Go
set_option linter.unusedSimpArgs false
set_option linter.unusedVariables false
set_option linter.constructorNameAsVariable false
set_option maxRecDepth 1000000
theorem JW:bA true 29=true:=by kernel_rfl
theorem J4:bA false 29=true:=by kernel_rfl
theorem Lc:bA true 30=true:=by kernel_rfl
theorem K8:bA false 30=true:=by kernel_rfl
end Go.Proofs.YtjlgcpgjdgeejaaGreatDoor
end

section
namespace Go.Proofs.YtjlgcpgjdgeejaaGreatDoor
open Go
set_option linter.unusedSimpArgs false
set_option linter.unusedVariables false
set_option linter.constructorNameAsVariable false
set_option maxRecDepth 1000000
theorem Ky:bA true 31=true:=by kernel_rfl
theorem KN:bA false 31=true:=by kernel_rfl
theorem Kn:bA true 32=true:=by kernel_rfl
theorem K4:bA false 32=true:=by kernel_rfl
end Go.Proofs.YtjlgcpgjdgeejaaGreatDoor
end

section
namespace Go.Proofs.YtjlgcpgjdgeejaaGreatDoor
open Go
set_option linter.unusedSimpArgs false
set_option linter.unusedVariables false
set_option linter.constructorNameAsVariable false
set_option maxRecDepth 1000000
theorem KS:bA true 33=true:=by kernel_rfl
theorem Kp:bA false 33=true:=by kernel_rfl
end Go.Proofs.YtjlgcpgjdgeejaaGreatDoor
end

section
namespace Go.Proofs.YtjlgcpgjdgeejaaGreatDoor
open Go
set_option linter.unusedSimpArgs false
set_option linter.unusedVariables false
set_option linter.constructorNameAsVariable false
set_option maxRecDepth 1000000
theorem Li:bA true 34=true:=by kernel_rfl
theorem KW:bA false 34=true:=by kernel_rfl
end Go.Proofs.YtjlgcpgjdgeejaaGreatDoor
end

section
namespace Go.Proofs.YtjlgcpgjdgeejaaGreatDoor
open Go
set_option linter.unusedSimpArgs false
set_option linter.unusedVariables false
set_option linter.constructorNameAsVariable false
set_option maxRecDepth 1000000
theorem JV:bA true 35=true:=by kernel_rfl
theorem Kq:bA false 35=true:=by kernel_rfl
end Go.Proofs.YtjlgcpgjdgeejaaGreatDoor
end

section
namespace Go.Proofs.YtjlgcpgjdgeejaaGreatDoor
open Go
set_option linter.unusedSimpArgs false
set_option linter.unusedVariables false
set_option linter.constructorNameAsVariable false
set_option maxRecDepth 1000000
theorem KR:bA true 36=true:=by kernel_rfl
theorem JY:bA false 36=true:=by kernel_rfl
end Go.Proofs.YtjlgcpgjdgeejaaGreatDoor
end
