/- A part of the claim: general tools, trees of the program, and what its functions come to (Shelf to TrC). Conditions: as its theorems say. -/
import Derived.Test.YtjlgcpgjdgeejaaGreatDoorClB
import Derived.Lib.SlBytesRow
import Derived.Shelf.LaysM
import Derived.Shelf.Small.Strs
import Derived.Shelf.Small.Utf8
import Derived.Shelf.Strconv.Atoi
import Derived.Shelf.Strings.AsciiSet
import Derived.Shelf.Strings.Count
import Derived.Shelf.Strings.IndexAny
import Derived.Shelf.Strings.IndexAnyAll
import Derived.Shelf.Strings.Runes
import Derived.Shelf.Strings.Search1
import Derived.Shelf.Strings.Search2
import Derived.Shelf.Strings.Search3
import Derived.Shelf.Strings.Shaped
import Derived.Shelf.Strings.Split
import Derived.Shelf.Strings.SplitShaped
import Derived.Shelf.Unicode.Decode
import Derived.Shelf.Unicode.DecodeSlow
import Derived.Test.YtjlgcpgjdgeejaaGreatDoorProg

/-
  DERIVED: THE SHELF's CONTRACTS AT THIS DUMP, IN PLAIN WORDS (tools/lay-plain.mjs out of 'TryzShelf.lean', which tools/lay-shelf.mjs wrote): THE SAME DECLARATIONS UNDER THE SAME NAMES: 'import', 'namespace', 'open', 'def', 'theorem' AND NOTHING ELSE: no command of the shelf's: FOR A HAND-IN. Each laying: the table of numbers ('.._ren') and one theorem, a field a fact of the dump's own or the kernel's comparison; each contract: ONE APPLICATION.
-/
section
namespace Go.Proofs
open Go.Shelf
def Tryz.lays137_ren : Go.Shelf.Ren := ⟨fun | 137 => 161 | 217 => 207 | 266 => 233 | n => n, fun | 9 => 9 | 5 => 5 | 3 => 3 | n => n, fun | n => n⟩
theorem Tryz.lays137 : Go.Proofs.Lays.n137 Tryz.prog Tryz.lays137_ren := {
  mixed := by kernel_rfl
  f137 := Tryz.func161.trans (congrArg some (by kernel_rfl))
  f217 := Tryz.func207.trans (congrArg some (by kernel_rfl))
  f266 := Tryz.func233.trans (congrArg some (by kernel_rfl))
  t3 := Tryz.underlying3
  a3 := Tryz.isAgg3
  z3 := Tryz.sizeOf3
  v3 := Tryz.zeroValue3
  t5 := Tryz.underlying5
  a5 := Tryz.isAgg5
  z5 := Tryz.sizeOf5
  v5 := Tryz.zeroValue5
  t9 := Tryz.underlying9
  a9 := Tryz.isAgg9
  z9 := Tryz.sizeOf9
  v9 := Tryz.zeroValue9 }
open Go.RowKit in
theorem Tryz.strings_IndexByte (s : ByteArray) (c : Int) (w : World) :
    Calls Tryz.prog 161 #[.string s, .int .u8 c] w fun e w' => e = .returned (.int .i64 (Lib.indexByte s.data.toList c.toNat.toUInt8)) ∧ w' = w := Any.strings_IndexByte Tryz.lays137 s c w
def Tryz.lays172_ren : Go.Shelf.Ren := ⟨fun | 172 => 245 | 244 => 260 | 245 => 261 | 247 => 267 | 279 => 268 | 280 => 269 | 281 => 270 | 282 => 271 | 287 => 273 | 316 => 274 | 171 => 276 | 205 => 275 | 321 => 277 | 322 => 278 | 243 => 279 | 246 => 280 | 283 => 281 | 284 => 282 | 285 => 283 | 286 => 284 | 129 => 286 | 317 => 285 | 318 => 287 | 319 => 288 | 320 => 289 | 337 => 290 | 338 => 291 | n => n, fun | 9 => 9 | 3 => 3 | 75 => 199 | 76 => 200 | 4 => 4 | 5 => 5 | 167 => 212 | 37 => 22 | 0 => 0 | 85 => 213 | 2 => 2 | 168 => 215 | 53 => 222 | 175 => 223 | 46 => 139 | 210 => 227 | 127 => 231 | 145 => 234 | 143 => 232 | 21 => 21 | 171 => 236 | 173 => 239 | 212 => 242 | 51 => 204 | 20 => 20 | 213 => 243 | 232 => 246 | 233 => 247 | 80 => 158 | n => n, fun | 15 => 3 | 16 => 4 | 17 => 5 | 18 => 6 | 19 => 7 | n => n⟩
theorem Tryz.lays172 : Go.Proofs.Lays.n172 Tryz.prog Tryz.lays172_ren := {
  mixed := by kernel_rfl
  f129 := Tryz.func286.trans (congrArg some (by kernel_rfl))
  f171 := Tryz.func276.trans (congrArg some (by kernel_rfl))
  f172 := Tryz.func245.trans (congrArg some (by kernel_rfl))
  f205 := Tryz.func275.trans (congrArg some (by kernel_rfl))
  f243 := Tryz.func279.trans (congrArg some (by kernel_rfl))
  f244 := Tryz.func260.trans (congrArg some (by kernel_rfl))
  f245 := Tryz.func261.trans (congrArg some (by kernel_rfl))
  f246 := Tryz.func280.trans (congrArg some (by kernel_rfl))
  f247 := Tryz.func267.trans (congrArg some (by kernel_rfl))
  f279 := Tryz.func268.trans (congrArg some (by kernel_rfl))
  f280 := Tryz.func269.trans (congrArg some (by kernel_rfl))
  f281 := Tryz.func270.trans (congrArg some (by kernel_rfl))
  f282 := Tryz.func271.trans (congrArg some (by kernel_rfl))
  f283 := Tryz.func281.trans (congrArg some (by kernel_rfl))
  f284 := Tryz.func282.trans (congrArg some (by kernel_rfl))
  f285 := Tryz.func283.trans (congrArg some (by kernel_rfl))
  f286 := Tryz.func284.trans (congrArg some (by kernel_rfl))
  f287 := Tryz.func273.trans (congrArg some (by kernel_rfl))
  f316 := Tryz.func274.trans (congrArg some (by kernel_rfl))
  f317 := Tryz.func285.trans (congrArg some (by kernel_rfl))
  f318 := Tryz.func287.trans (congrArg some (by kernel_rfl))
  f319 := Tryz.func288.trans (congrArg some (by kernel_rfl))
  f320 := Tryz.func289.trans (congrArg some (by kernel_rfl))
  f321 := Tryz.func277.trans (congrArg some (by kernel_rfl))
  f322 := Tryz.func278.trans (congrArg some (by kernel_rfl))
  f337 := Tryz.func290.trans (congrArg some (by kernel_rfl))
  f338 := Tryz.func291.trans (congrArg some (by kernel_rfl))
  t0 := Tryz.underlying0
  a0 := Tryz.isAgg0
  z0 := Tryz.sizeOf0
  v0 := Tryz.zeroValue0
  t2 := Tryz.underlying2
  a2 := Tryz.isAgg2
  z2 := Tryz.sizeOf2
  v2 := Tryz.zeroValue2
  t3 := Tryz.underlying3
  a3 := Tryz.isAgg3
  z3 := Tryz.sizeOf3
  v3 := Tryz.zeroValue3
  t4 := Tryz.underlying4
  a4 := Tryz.isAgg4
  z4 := Tryz.sizeOf4
  v4 := Tryz.zeroValue4
  t5 := Tryz.underlying5
  a5 := Tryz.isAgg5
  z5 := Tryz.sizeOf5
  v5 := Tryz.zeroValue5
  t9 := Tryz.underlying9
  a9 := Tryz.isAgg9
  z9 := Tryz.sizeOf9
  v9 := Tryz.zeroValue9
  t20 := Tryz.underlying20
  a20 := Tryz.isAgg20
  z20 := Tryz.sizeOf20
  v20 := Tryz.zeroValue20
  t21 := Tryz.underlying21
  a21 := Tryz.isAgg21
  z21 := Tryz.sizeOf21
  v21 := Tryz.zeroValue21
  t37 := Tryz.underlying22
  a37 := Tryz.isAgg22
  z37 := Tryz.sizeOf22
  v37 := Tryz.zeroValue22
  t46 := Tryz.underlying139
  a46 := Tryz.isAgg139
  z46 := Tryz.sizeOf139
  v46 := Tryz.zeroValue139
  t51 := Tryz.underlying204
  a51 := Tryz.isAgg204
  z51 := Tryz.sizeOf204
  v51 := Tryz.zeroValue204
  t53 := Tryz.underlying222
  a53 := Tryz.isAgg222
  z53 := Tryz.sizeOf222
  v53 := Tryz.zeroValue222
  t75 := Tryz.underlying199
  a75 := Tryz.isAgg199
  z75 := Tryz.sizeOf199
  v75 := Tryz.zeroValue199
  t76 := Tryz.underlying200
  a76 := Tryz.isAgg200
  z76 := Tryz.sizeOf200
  v76 := Tryz.zeroValue200
  t85 := Tryz.underlying213
  a85 := Tryz.isAgg213
  z85 := Tryz.sizeOf213
  v85 := Tryz.zeroValue213
  t127 := Tryz.underlying231
  a127 := Tryz.isAgg231
  z127 := Tryz.sizeOf231
  v127 := Tryz.zeroValue231
  t143 := Tryz.underlying232
  a143 := Tryz.isAgg232
  z143 := Tryz.sizeOf232
  v143 := Tryz.zeroValue232
  t145 := Tryz.underlying234
  a145 := Tryz.isAgg234
  z145 := Tryz.sizeOf234
  v145 := Tryz.zeroValue234
  t167 := Tryz.underlying212
  a167 := Tryz.isAgg212
  z167 := Tryz.sizeOf212
  v167 := Tryz.zeroValue212
  t168 := Tryz.underlying215
  a168 := Tryz.isAgg215
  z168 := Tryz.sizeOf215
  v168 := Tryz.zeroValue215
  t171 := Tryz.underlying236
  a171 := Tryz.isAgg236
  z171 := Tryz.sizeOf236
  v171 := Tryz.zeroValue236
  t173 := Tryz.underlying239
  a173 := Tryz.isAgg239
  z173 := Tryz.sizeOf239
  v173 := Tryz.zeroValue239
  t175 := Tryz.underlying223
  a175 := Tryz.isAgg223
  z175 := Tryz.sizeOf223
  v175 := Tryz.zeroValue223
  t210 := Tryz.underlying227
  a210 := Tryz.isAgg227
  z210 := Tryz.sizeOf227
  v210 := Tryz.zeroValue227
  t212 := Tryz.underlying242
  a212 := Tryz.isAgg242
  z212 := Tryz.sizeOf242
  v212 := Tryz.zeroValue242
  t213 := Tryz.underlying243
  a213 := Tryz.isAgg243
  z213 := Tryz.sizeOf243
  t232 := Tryz.underlying246
  a232 := Tryz.isAgg246
  z232 := Tryz.sizeOf246
  v232 := Tryz.zeroValue246
  t233 := Tryz.underlying247
  a233 := Tryz.isAgg247
  z233 := Tryz.sizeOf247
  v233 := Tryz.zeroValue247
  g15 := by kernel_rfl
  g16 := by kernel_rfl
  g17 := by kernel_rfl
  g18 := by kernel_rfl
  g19 := by kernel_rfl }
open Go.RowKit in
theorem Tryz.strconv_Atoi (s : ByteArray) (n : Int) (hl : s.size ≤ 18) (h : Lib.atoi s.data.toList = some n) (w : World) :
    Calls Tryz.prog 245 #[.string s] w fun e w' => e = .returned (.tuple #[.int .i64 n, .nilIface]) ∧ ∃ t, w' = Lib.bytesWorld w 5 t := Any.strconv_Atoi Tryz.lays172 s n hl h w
def Tryz.lays143_ren : Go.Shelf.Ren := ⟨fun | 143 => 163 | 219 => 208 | 217 => 207 | 225 => 234 | 224 => 235 | 267 => 236 | 266 => 233 | 314 => 252 | n => n, fun | 9 => 9 | 3 => 3 | 4 => 4 | 5 => 5 | 46 => 139 | 146 => 205 | 51 => 204 | n => n, fun | 1 => 0 | n => n⟩
theorem Tryz.lays143 : Go.Proofs.Lays.n143 Tryz.prog Tryz.lays143_ren := {
  mixed := by kernel_rfl
  f143 := Tryz.func163.trans (congrArg some (by kernel_rfl))
  f217 := Tryz.func207.trans (congrArg some (by kernel_rfl))
  f219 := Tryz.func208.trans (congrArg some (by kernel_rfl))
  f224 := Tryz.func235.trans (congrArg some (by kernel_rfl))
  f225 := Tryz.func234.trans (congrArg some (by kernel_rfl))
  f266 := Tryz.func233.trans (congrArg some (by kernel_rfl))
  f267 := Tryz.func236.trans (congrArg some (by kernel_rfl))
  f314 := Tryz.func252.trans (congrArg some (by kernel_rfl))
  t3 := Tryz.underlying3
  a3 := Tryz.isAgg3
  z3 := Tryz.sizeOf3
  v3 := Tryz.zeroValue3
  t4 := Tryz.underlying4
  a4 := Tryz.isAgg4
  z4 := Tryz.sizeOf4
  v4 := Tryz.zeroValue4
  t5 := Tryz.underlying5
  a5 := Tryz.isAgg5
  z5 := Tryz.sizeOf5
  v5 := Tryz.zeroValue5
  t9 := Tryz.underlying9
  a9 := Tryz.isAgg9
  z9 := Tryz.sizeOf9
  v9 := Tryz.zeroValue9
  t46 := Tryz.underlying139
  a46 := Tryz.isAgg139
  z46 := Tryz.sizeOf139
  v46 := Tryz.zeroValue139
  t51 := Tryz.underlying204
  a51 := Tryz.isAgg204
  z51 := Tryz.sizeOf204
  v51 := Tryz.zeroValue204
  t146 := Tryz.underlying205
  a146 := Tryz.isAgg205
  z146 := Tryz.sizeOf205
  v146 := Tryz.zeroValue205
  g1 := by kernel_rfl }
open Go.RowKit Go.Lib in
theorem Tryz.strings_Index (s sub : ByteArray) (m : Int) (w : World) (hs : s.size < 4294967281) (hm : w.cell? ⟨0, 0, none⟩ = some (.int .i64 m)) :
    Calls Tryz.prog 163 #[.string s, .string sub] w fun e w' => e = .returned (.int .i64 (Lib.index s.data.toList sub.data.toList)) ∧ w' = w := Any.strings_Index Tryz.lays143 s sub m w hs hm
def Tryz.lays144_ren : Go.Shelf.Ren := ⟨fun | 144 => 168 | 143 => 163 | 219 => 208 | 217 => 207 | 225 => 234 | 224 => 235 | 267 => 236 | 266 => 233 | 314 => 252 | n => n, fun | 9 => 9 | 4 => 4 | 3 => 3 | 5 => 5 | 46 => 139 | 146 => 205 | 51 => 204 | n => n, fun | 1 => 0 | n => n⟩
theorem Tryz.lays144 : Go.Proofs.Lays.n144 Tryz.prog Tryz.lays144_ren := {
  mixed := by kernel_rfl
  f143 := Tryz.func163.trans (congrArg some (by kernel_rfl))
  f144 := Tryz.func168.trans (congrArg some (by kernel_rfl))
  f217 := Tryz.func207.trans (congrArg some (by kernel_rfl))
  f219 := Tryz.func208.trans (congrArg some (by kernel_rfl))
  f224 := Tryz.func235.trans (congrArg some (by kernel_rfl))
  f225 := Tryz.func234.trans (congrArg some (by kernel_rfl))
  f266 := Tryz.func233.trans (congrArg some (by kernel_rfl))
  f267 := Tryz.func236.trans (congrArg some (by kernel_rfl))
  f314 := Tryz.func252.trans (congrArg some (by kernel_rfl))
  t3 := Tryz.underlying3
  a3 := Tryz.isAgg3
  z3 := Tryz.sizeOf3
  v3 := Tryz.zeroValue3
  t4 := Tryz.underlying4
  a4 := Tryz.isAgg4
  z4 := Tryz.sizeOf4
  v4 := Tryz.zeroValue4
  t5 := Tryz.underlying5
  a5 := Tryz.isAgg5
  z5 := Tryz.sizeOf5
  v5 := Tryz.zeroValue5
  t9 := Tryz.underlying9
  a9 := Tryz.isAgg9
  z9 := Tryz.sizeOf9
  v9 := Tryz.zeroValue9
  t46 := Tryz.underlying139
  a46 := Tryz.isAgg139
  z46 := Tryz.sizeOf139
  v46 := Tryz.zeroValue139
  t51 := Tryz.underlying204
  a51 := Tryz.isAgg204
  z51 := Tryz.sizeOf204
  v51 := Tryz.zeroValue204
  t146 := Tryz.underlying205
  a146 := Tryz.isAgg205
  z146 := Tryz.sizeOf205
  v146 := Tryz.zeroValue205
  g1 := by kernel_rfl }
open Go.RowKit Go.Lib in
theorem Tryz.strings_Contains (s sub : ByteArray) (m : Int) (w : World) (hs : s.size < 4294967281) (hm : w.cell? ⟨0, 0, none⟩ = some (.int .i64 m)) :
    Calls Tryz.prog 168 #[.string s, .string sub] w fun e w' => e = .returned (.bool (Lib.contains s.data.toList sub.data.toList)) ∧ w' = w := Any.strings_Contains Tryz.lays144 s sub m w hs hm
def Tryz.lays150_ren : Go.Shelf.Ren := ⟨fun | 150 => 167 | 153 => 210 | 152 => 237 | 226 => 238 | 227 => 239 | 228 => 240 | 137 => 161 | 119 => 253 | 224 => 235 | 225 => 234 | 217 => 207 | 266 => 233 | n => n, fun | 9 => 9 | 4 => 4 | 3 => 3 | 5 => 5 | 21 => 21 | 117 => 195 | 116 => 194 | 0 => 0 | 46 => 139 | 124 => 208 | n => n, fun | n => n⟩
theorem Tryz.lays150 : Go.Proofs.Lays.n150 Tryz.prog Tryz.lays150_ren := {
  mixed := by kernel_rfl
  f119 := Tryz.func253.trans (congrArg some (by kernel_rfl))
  f137 := Tryz.func161.trans (congrArg some (by kernel_rfl))
  f150 := Tryz.func167.trans (congrArg some (by kernel_rfl))
  f152 := Tryz.func237.trans (congrArg some (by kernel_rfl))
  f153 := Tryz.func210.trans (congrArg some (by kernel_rfl))
  f217 := Tryz.func207.trans (congrArg some (by kernel_rfl))
  f224 := Tryz.func235.trans (congrArg some (by kernel_rfl))
  f225 := Tryz.func234.trans (congrArg some (by kernel_rfl))
  f226 := Tryz.func238.trans (congrArg some (by kernel_rfl))
  f227 := Tryz.func239.trans (congrArg some (by kernel_rfl))
  f228 := Tryz.func240.trans (congrArg some (by kernel_rfl))
  f266 := Tryz.func233.trans (congrArg some (by kernel_rfl))
  t0 := Tryz.underlying0
  a0 := Tryz.isAgg0
  z0 := Tryz.sizeOf0
  v0 := Tryz.zeroValue0
  t3 := Tryz.underlying3
  a3 := Tryz.isAgg3
  z3 := Tryz.sizeOf3
  v3 := Tryz.zeroValue3
  t4 := Tryz.underlying4
  a4 := Tryz.isAgg4
  z4 := Tryz.sizeOf4
  v4 := Tryz.zeroValue4
  t5 := Tryz.underlying5
  a5 := Tryz.isAgg5
  z5 := Tryz.sizeOf5
  v5 := Tryz.zeroValue5
  t9 := Tryz.underlying9
  a9 := Tryz.isAgg9
  z9 := Tryz.sizeOf9
  v9 := Tryz.zeroValue9
  t21 := Tryz.underlying21
  a21 := Tryz.isAgg21
  z21 := Tryz.sizeOf21
  v21 := Tryz.zeroValue21
  t46 := Tryz.underlying139
  a46 := Tryz.isAgg139
  z46 := Tryz.sizeOf139
  v46 := Tryz.zeroValue139
  t116 := Tryz.underlying194
  a116 := Tryz.isAgg194
  z116 := Tryz.sizeOf194
  t117 := Tryz.underlying195
  a117 := Tryz.isAgg195
  z117 := Tryz.sizeOf195
  v117 := Tryz.zeroValue195
  t124 := Tryz.underlying208
  a124 := Tryz.isAgg208
  z124 := Tryz.sizeOf208
  v124 := Tryz.zeroValue208 }
open Go.RowKit Go.Lib in
theorem Tryz.strings_ContainsAny_laid (s chars : ByteArray) (w : World) (hs : s.size < 4294967281) (hcs : chars.size < 4294967281) (has : ∀ (j : Nat) b, s.data.toList[j]? = some b → b.toNat < 128) (hac : ∀ (j : Nat) b, chars.data.toList[j]? = some b → b.toNat < 128) :
    Calls Tryz.prog 167 #[.string s, .string chars] w fun e w' => e = .returned (.bool (Lib.containsAny s.data.toList chars.data.toList)) ∧ Below w.heap.size w w' := Any.strings_ContainsAny_laid Tryz.lays150 (by kernel_rfl) s chars w hs hcs has hac
end Go.Proofs
end

/- Bytes that no one writes any more: read, cut, made texts of; the library's own functions on texts. Conditions: none. -/
section
namespace Go.Proofs.YtjlgcpgjdgeejaaGreatDoor
open Go
set_option linter.unusedSimpArgs false
set_option linter.unusedVariables false
set_option linter.constructorNameAsVariable false
set_option maxRecDepth 100000

def PVal (P : Program) (Γ : List Fact) (s0 : Sem Next) (v : Value) : Prop := ∀ F, Holds Γ F → ∀ w, Stab F w → s0.run P w = .ok (.value v) w
theorem Split.stab {r : Rest} {w : World} {H : Own} {F : Heap} (h : Split r w H F) : Stab F w := fun b o hb => (h.frz b o hb).1
section
variable {ε σ β : Type} {P : Program} {I : Ifc ε σ} {t : Ty} {Rel : β → t.den → Own → Fact} {Δ : Labels ε σ β} {md : Mode} {L Lq : Own} {Γ Γq : List Fact} {st : σ} {run : Option (Res ε σ β)}
theorem k_pv {t1 : Ty} {s0 : Sem Next} {k : t1.den → T} (x : t1.den) (h : PVal P Γ s0 (t1.enc x)) (hk : SimK P I t Rel Δ none st (k x) run L Γ) : SimK P I t Rel Δ md st (.op s0 t1 k) run L Γ :=
  k_loc (post := fun y L' Γ' => x = y ∧ L' = L ∧ Γ' = Γ) (Loc.val fun r w F H hF hsp => ⟨x, w, L, Γ, F, .inl (h F hF w hsp.stab), Heap.le.refl F, hF, hsp, rfl, rfl, rfl⟩) fun y L' Γ' ⟨h1, h2, h3⟩ => by subst h1; subst h2; subst h3; exact hk
theorem k_pvq {t1 : Ty} {s0 : Sem Next} {k : t1.den → T} (x : t1.den) (h : PVal P Γq s0 (t1.enc x)) (hk : SimK P I t Rel Δ (some (Γq, Lq)) st (k x) run L Γ) : SimK P I t Rel Δ (some (Γq, Lq)) st (.opq s0 t1 k) run L Γ :=
  k_opq x (fun K h1 _ w hw => h K h1 w hw) hk
end
theorem PVal.pure {P : Program} {Γ : List Fact} {s0 : Sem Next} {v : Value} (h : ∀ w, s0.run P w = .ok (.value v) w) : PVal P Γ s0 v := fun _ _ w _ => h w
def encU8 (x : UInt8) : List Value := [.int .u8 (x.toNat : Int)]
theorem encU8_len (x : UInt8) : (encU8 x).length = 1 := rfl
def ByF (sl : SlD) (b : ByteArray) : Fact where
  p F := sl.2.1 = b.size ∧ sl.2.1 ≤ sl.2.2 ∧ (b.size = 0 ∨ ∃ a c T0 fr, sl.1 = some a ∧ a.spot = none ∧ F a.block = some (.cells c T0 fr) ∧ ∀ i (h : i < b.size), c[a.off + i]? = some (.int .u8 (b[i].toNat : Int)))
  mono F F' hl h := ⟨h.1, h.2.1, h.2.2.imp id fun ⟨a, c, T0, fr, h1, h2, h3, h4⟩ => ⟨a, c, T0, fr, h1, h2, hl _ _ h3, h4⟩⟩
theorem ba_len (b : ByteArray) : b.data.toList.length = b.size := by simp
theorem ByF.len {sl : SlD} {b : ByteArray} {F : Heap} (h : (ByF sl b).p F) : sl.2.1 = b.size := h.1
theorem ByF.addr {sl : SlD} {b : ByteArray} {F : Heap} (h : (ByF sl b).p F) (hb : 0 < b.size) : ∃ a, sl.1 = some a ∧ a.spot = none := by
  rcases h.2.2 with h | ⟨a, _, _, _, h1, h2, _⟩
  · omega
  · exact ⟨a, h1, h2⟩
theorem ba_at (b : ByteArray) (i : Nat) (h : i < b.size) : b.data.toList[i]? = some b[i] := by
  rw [List.getElem?_eq_getElem (by rw [ba_len]; exact h)]
  rfl
theorem bAt_eq (b : ByteArray) (i : Nat) (h : i < b.size) : bAt b i = (b[i].toNat : Int) := by
  unfold bAt
  rw [getElem?_pos b i h]
theorem ByF.bytes {sl : SlD} {b : ByteArray} {F : Heap} {a : Addr} (h : (ByF sl b).p F) (ha : sl.1 = some a) {w : World} (hw : Stab F w) : Lib.Bytes w a.block a.off b := fun i hi => by
  rcases h.2.2 with h | ⟨a', c, T0, fr, g1, g2, g3, g4⟩
  · omega
  · rw [ha] at g1; cases g1
    have := hw _ _ g3
    simp only [World.cell?, this]
    exact g4 i hi
theorem pv_idx {Γ : List Fact} {sl : SlD} {b : ByteArray} {a : Addr} (hb : ByF sl b ∈ Γ) (ha : sl.1 = some a) {i : Int} {n : Nat} (hi : i = n) (hn : n < b.size) : PVal PG Γ (idxAS T_Suint8 (.slice sl.1 sl.2.1 sl.2.2) (.int .i64 i)) (.pointer (some (a.add n))) := fun F hF w hw => by
  have hl := ByF.len (hF _ hb)
  subst hi
  rw [ha, run_idxA (n := 1) (by kernel_rfl) (by omega) (by omega)]
  simp
theorem pv_byte {Γ : List Fact} {sl : SlD} {b : ByteArray} {a : Addr} (hb : ByF sl b ∈ Γ) (ha : sl.1 = some a) {n : Nat} (hn : n < b.size) : PVal PG Γ (ldS T_uint8 (.pointer (some (a.add n)))) (.int .u8 (bAt b n)) := fun F hF w hw => by
  have hs : a.spot = none := by
    obtain ⟨a', h1, h2⟩ := ByF.addr (hF _ hb) (by omega)
    rw [ha] at h1; cases h1; exact h2
  obtain ⟨x1, x2, x3⟩ := addr_add a hs n
  refine run_ldC (by kernel_rfl) ?_
  have := ByF.bytes (hF _ hb) ha hw n hn
  rw [bAt_eq b n hn, ← this]
  cases hh : a.add n with
  | mk p o sp => rw [hh] at x1 x2 x3; simp only at x1 x2 x3; subst x1; subst x2; subst x3; rfl
section
variable {ε σ β : Type} {I : Ifc ε σ} {t : Ty} {Rel : β → t.den → Own → Fact} {Δ : Labels ε σ β} {md : Mode} {L Lq : Own} {Γ Γq : List Fact} {st : σ} {run : Option (Res ε σ β)}
theorem k_byte {sl : SlD} {b : ByteArray} {i : Int} {k : Int → T} (n : Nat) (hb : ByF sl b ∈ Γ) (hi : i = n) (hn : n < b.size) (hk : SimK PG I t Rel Δ none st (k (bAt b n)) run L Γ) :
    SimK PG I t Rel Δ md st (.op (idxAS T_Suint8 (.slice sl.1 sl.2.1 sl.2.2) (.int .i64 i)) tA fun r => .op (ldS T_uint8 (.pointer (some r))) tU8 k) run L Γ :=
  k_note (φ := ∃ a, sl.1 = some a ∧ a.spot = none) (fun F hF => ByF.addr (hF _ hb) (by omega)) fun ⟨a, ha, _⟩ =>
    k_pv (t1 := tA) (a.add n) (pv_idx hb ha hi hn) (k_pv (t1 := tU8) (bAt b n) (pv_byte hb ha hn) hk)
theorem k_byteq {sl : SlD} {b : ByteArray} {i : Int} {k : Int → T} (n : Nat) (hb : ByF sl b ∈ Γ) (hq : ByF sl b ∈ Γq) (hi : i = n) (hn : n < b.size) (hk : SimK PG I t Rel Δ (some (Γq, Lq)) st (k (bAt b n)) run L Γ) :
    SimK PG I t Rel Δ (some (Γq, Lq)) st (.opq (idxAS T_Suint8 (.slice sl.1 sl.2.1 sl.2.2) (.int .i64 i)) tA fun r => .opq (ldS T_uint8 (.pointer (some r))) tU8 k) run L Γ :=
  k_note (φ := ∃ a, sl.1 = some a ∧ a.spot = none) (fun F hF => ByF.addr (hF _ hb) (by omega)) fun ⟨a, ha, _⟩ =>
    k_pvq (t1 := tA) (a.add n) (pv_idx hq ha hi hn) (k_pvq (t1 := tU8) (bAt b n) (pv_byte hq ha hn) hk)
end
def subD (sl : SlD) (i j : Nat) : SlD := (if sl.2.2 = i then sl.1 else sl.1.map (·.add (i * 1)), j - i, sl.2.2 - i)
theorem sz_u8 (w : World) : (sizeOf (PG.elem T_Suint8)).run PG w = .ok 1 w := by
  have h : PG.elem T_Suint8 = T_uint8 := by kernel_rfl
  have h2 : shapeOf PG T_uint8 = some (false, 1) := by kernel_rfl
  rw [h]
  exact (run_isAgg h2).2
theorem und_Su8 : PG.underlying T_Suint8 = some (.slice (PG.elem T_Suint8)) := by kernel_rfl
theorem pv_sub {Γ : List Fact} {sl : SlD} {b : ByteArray} (hb : ByF sl b ∈ Γ) {lo hi : Int} (i j : Nat) (h1 : lo = i) (h2 : hi = j) (hij : i ≤ j) (hj : j ≤ b.size) :
    PVal PG Γ (subS T_Suint8 (.slice sl.1 sl.2.1 sl.2.2) (some (.int .i64 lo)) (some (.int .i64 hi)) none) (.slice (subD sl i j).1 (subD sl i j).2.1 (subD sl i j).2.2) := fun F hF w hw => by
  have hl := ByF.len (hF _ hb)
  have hc : sl.2.1 ≤ sl.2.2 := (hF _ hb).2.1
  subst h1; subst h2
  simp only [subS, valS, Sem.run_bind, run_sliceAt_slice w _ _ _ _ _ und_Su8, run_slice_lh w T_Suint8 sl.1 sl.2.1 sl.2.2 und_Su8 .i64 .i64 (i : Int) (j : Int) (by omega) (by omega) (by omega), sz_u8, Result.andThen_ok, Sem.run_pure, sliced, subD, Int.toNat_natCast]
theorem pv_subL {Γ : List Fact} {sl : SlD} {b : ByteArray} (hb : ByF sl b ∈ Γ) {lo : Int} (i : Nat) (h1 : lo = i) (hij : i ≤ b.size) :
    PVal PG Γ (subS T_Suint8 (.slice sl.1 sl.2.1 sl.2.2) (some (.int .i64 lo)) none none) (.slice (subD sl i b.size).1 (subD sl i b.size).2.1 (subD sl i b.size).2.2) := fun F hF w hw => by
  have hl := ByF.len (hF _ hb)
  subst h1
  rw [hl]
  simp only [subS, valS, Sem.run_bind, run_sliceAt_slice w _ _ _ _ _ und_Su8, run_slice_l w T_Suint8 sl.1 b.size sl.2.2 und_Su8 .i64 (i : Int) (by omega) (by omega), sz_u8, Result.andThen_ok, Sem.run_pure, sliced, subD, hl, Int.toNat_natCast]
theorem pv_str {Γ : List Fact} {sl : SlD} {b : ByteArray} (hb : ByF sl b ∈ Γ) (i j : Nat) (hij : i ≤ j) (hj : j ≤ b.size) (h0 : 0 < b.size) :
    PVal PG Γ (cvS T_Suint8 T_string (.slice (subD sl i j).1 (subD sl i j).2.1 (subD sl i j).2.2)) (.string (b.extract i j)) := fun F hF w hw => by
  have hl := ByF.len (hF _ hb)
  have hc : sl.2.1 ≤ sl.2.2 := (hF _ hb).2.1
  obtain ⟨a, ha, hs⟩ := ByF.addr (hF _ hb) h0
  have hB := ByF.bytes (hF _ hb) ha hw
  have e1 : PG.underlying T_Suint8 = some (.slice T_uint8) := by kernel_rfl
  have e2 : PG.underlying T_uint8 = some (.int .u8) := by kernel_rfl
  have e3 : PG.underlying T_string = some .string := by kernel_rfl
  obtain ⟨ab, ao, asp⟩ := a
  have hs' : asp = none := hs
  subst hs'
  have hadd : (⟨ab, ao, none⟩ : Addr).add (i * 1) = ⟨ab, ao + i, none⟩ := by
    obtain ⟨x1, x2, x3⟩ := addr_add (⟨ab, ao, none⟩ : Addr) rfl (i * 1)
    cases hh : (⟨ab, ao, none⟩ : Addr).add (i * 1) with
    | mk p o s => rw [hh] at x1 x2 x3; simp only at x1 x2 x3; subst x1; subst x2; subst x3; simp
  have hrun := Lib.run_convert_window (P := PG) w T_Suint8 T_uint8 T_string e1 e2 e3 ab ao b hB i (j - i) (sl.2.2 - i) (by omega)
  rw [show i + (j - i) = j by omega] at hrun
  by_cases hci : sl.2.2 = i
  · have hjj : j - i = 0 := by omega
    have hrun0 := run_convert_bytes_arg (P := PG) w T_Suint8 T_uint8 e1 e2 ab ao 0 (sl.2.2 - i) [] rfl (fun _ h => absurd h (Nat.not_lt_zero _)) T_string e3
    simp only [cvS, valS, Sem.run_bind, subD, if_pos hci, ha, hjj, hrun0, Result.andThen_ok, Sem.run_pure]
    have : b.extract i j = ByteArray.empty := by
      apply ByteArray.ext
      apply Array.toList_inj.1
      have : i = j := by omega
      subst this
      simp [ByteArray.data_extract]
    rw [this]; rfl
  · simp only [cvS, valS, Sem.run_bind, subD, if_neg hci, ha, Option.map_some, hadd, hrun, Result.andThen_ok, Sem.run_pure]
def MxF : Fact := ⟨fun F => ∃ T0 l m fr, F 0 = some (.cells l T0 fr) ∧ l[0]? = some (.int .i64 m), fun F F' hl ⟨T0, l, m, fr, h1, h2⟩ => ⟨T0, l, m, fr, hl _ _ h1, h2⟩⟩
theorem MxF.cell {F : Heap} (h : MxF.p F) {w : World} (hw : Stab F w) : ∃ m, w.cell? ⟨0, 0, none⟩ = some (.int .i64 m) := by
  obtain ⟨T0, l, m, fr, h1, h2⟩ := h
  exact ⟨m, by simp [World.cell?, hw _ _ h1, h2]⟩
theorem Split.below {r : Rest} {w w' : World} {H : Own} {F : Heap} (h : Split r w H F) (hb : Go.RowKit.Below w.heap.size w w') : Split r w' H F :=
  ⟨hb.os.trans h.os, hb.tape.trans h.tape, hb.output.trans h.output, Nat.le_trans h.size hb.size, h.nodup, fun b o hm => by rw [hb.block b (h.lt_own hm)]; exact h.own b o hm,
   fun b o hF => by
     obtain ⟨h1, h2⟩ := h.frz b o hF
     exact ⟨by rw [hb.block b (heap_lt h1)]; exact h1, h2⟩,
   fun b o hR => by
     obtain ⟨h1, h2⟩ := h.rst b o hR
     exact ⟨by rw [hb.block b (heap_lt h1)]; exact h1, h2⟩⟩
theorem meets_lib {ε : Type} {f : FuncId} {fn : Func} {args : Array Value} {t1 : Ty} {x : t1.den} {Γ : List Fact} (hf : PG.funcs[f]? = some fn) (hb : fn.body.isNone = false) (hn : (fn.name == "runtime.NumGoroutine") = false)
    (h : ∀ F, Holds Γ F → ∀ w, Stab F w → Calls PG f args w fun e w' => e = .returned (t1.enc x) ∧ Go.RowKit.Below w.heap.size w w') : Meets PG (I0 : Ifc ε Unit) (callS f args) t1 (Pure.pure x : Sp ε Unit t1.den) RelEq Γ := by
  intro r w F H st res hs hΓ hi hsp
  rw [run_callS hf hb hn]
  have hs' : res = .ok x st := (Option.some.inj hs).symm
  subst hs'
  refine Calls.mono (h F hΓ w hsp.stab) fun e w' he => ?_
  obtain ⟨rfl, hB⟩ := he
  exact ⟨F, Heap.le.refl F, H, [], x, rfl, hi, by simpa using hsp.below hB, rfl, rfl⟩
def ixB (s : ByteArray) (c : Int) : Int := Lib.indexByte s.data.toList c.toNat.toUInt8
theorem indexByte_m {ε : Type} (s : ByteArray) (c : Int) : Meets PG (I0 : Ifc ε Unit) (callS F_strings_IndexByte #[.string s, .int .u8 c]) tI (Pure.pure (ixB s c)) RelEq [] :=
  meets_lib Tryz.func161 rfl rfl fun F hF w hw => Calls.mono (Tryz.strings_IndexByte s c w) fun e w' he => ⟨he.1, he.2 ▸ Go.RowKit.Below.refl _ _⟩
def ixS (s x : ByteArray) : Int := Lib.index s.data.toList x.data.toList
theorem index_m {ε : Type} (s x : ByteArray) (hs : s.size < 4294967281) : Meets PG (I0 : Ifc ε Unit) (callS F_strings_Index #[.string s, .string x]) tI (Pure.pure (ixS s x)) RelEq [MxF] :=
  meets_lib Tryz.func163 rfl rfl fun F hF w hw => by
    obtain ⟨m, hm⟩ := MxF.cell (hF MxF (List.mem_cons_self ..)) hw
    exact Calls.mono (Tryz.strings_Index s x m w hs hm) fun e w' he => ⟨he.1, he.2 ▸ Go.RowKit.Below.refl _ _⟩
def ctS (s x : ByteArray) : Bool := Lib.contains s.data.toList x.data.toList
theorem contains_m {ε : Type} (s x : ByteArray) (hs : s.size < 4294967281) : Meets PG (I0 : Ifc ε Unit) (callS F_strings_Contains #[.string s, .string x]) tB (Pure.pure (ctS s x)) RelEq [MxF] :=
  meets_lib Tryz.func168 rfl rfl fun F hF w hw => by
    obtain ⟨m, hm⟩ := MxF.cell (hF MxF (List.mem_cons_self ..)) hw
    exact Calls.mono (Tryz.strings_Contains s x m w hs hm) fun e w' he => ⟨he.1, he.2 ▸ Go.RowKit.Below.refl _ _⟩
def asciiB (s : ByteArray) : Bool := s.data.toList.all fun x => decide (x.toNat < 128)
theorem asciiB_spec {s : ByteArray} (h : asciiB s = true) : ∀ (j : Nat) b, s.data.toList[j]? = some b → b.toNat < 128 := fun j b hb => by
  have := List.all_eq_true.1 h b (List.mem_of_getElem? hb)
  simpa using this
def caS (s x : ByteArray) : Bool := Lib.containsAny s.data.toList x.data.toList
theorem containsAny_m {ε : Type} (s x : ByteArray) (hs : s.size < 4294967281) (hx : x.size < 4294967281) (h1 : asciiB s = true) (h2 : asciiB x = true) : Meets PG (I0 : Ifc ε Unit) (callS F_strings_ContainsAny #[.string s, .string x]) tB (Pure.pure (caS s x)) RelEq [] :=
  meets_lib Tryz.func167 rfl rfl fun F hF w hw => Tryz.strings_ContainsAny_laid s x w hs hx (asciiB_spec h1) (asciiB_spec h2)
theorem Go.RowKit.Below.bytesWorld (w : World) (e : TypeId) (s : ByteArray) : Go.RowKit.Below w.heap.size w (Lib.bytesWorld w e s) := by
  refine ⟨rfl, rfl, rfl, ?_, fun k hk => ?_⟩
  · simp [Lib.bytesWorld, World.freeze]
  · have : ((w.drew.alloc (.cells (Lib.bytesCells w e s) e)).heap[k]?) = w.heap[k]? := Go.RowKit.Below.heap_alloc w.drew _ k hk
    simp only [Lib.bytesWorld, World.freeze]
    rw [if_neg (by decide)]
    simp only [Array.getElem?_modify]
    rw [if_neg (by omega)]
    exact this
theorem atoi_m {ε : Type} (s : ByteArray) (n : Int) (hl : s.size ≤ 18) (h : Lib.atoi s.data.toList = some n) : Meets PG (I0 : Ifc ε Unit) (callS F_strconv_Atoi #[.string s]) (.tup [.b (.int .i64), .b .val]) (Pure.pure ((n, .nilIface, ()) : HC [.b (.int .i64), .b .val])) RelEq [] :=
  meets_lib Tryz.func245 rfl rfl fun F hF w hw => Calls.mono (Tryz.strconv_Atoi s n hl h w) fun e w' he => ⟨he.1, by obtain ⟨_, t, rfl⟩ := he; exact Go.RowKit.Below.bytesWorld _ _ _⟩
end Go.Proofs.YtjlgcpgjdgeejaaGreatDoor
end

/- How bytes are cut into tokens, as a plain function (texts of ASCII; strings and templates not yet). Conditions: none. -/
section
namespace Go.Proofs.YtjlgcpgjdgeejaaGreatDoor
open Go
set_option linter.unusedVariables false

structure SSt where
  pos : Nat
  opn : List Bool
instance : DecidableEq SSt := fun a b => decidable_of_iff (a.pos = b.pos ∧ a.opn = b.opn) ⟨fun ⟨h1, h2⟩ => by cases a; cases b; simp only at h1 h2; rw [h1, h2], fun h => h ▸ ⟨rfl, rfl⟩⟩
def letterB (c : Int) : Bool := (decide (c ≥ 97) && decide (c ≤ 122)) || (decide (c ≥ 65) && decide (c ≤ 90)) || c == 95 || c == 36
def digitB (c : Int) : Bool := decide (c ≥ 48) && decide (c ≤ 57)
def resB (s : ByteArray) : Bool := ctS kLong74 (k_sp ++ s ++ k_sp)
def hasB (b : ByteArray) (k : Nat) (x : ByteArray) : Bool := decide (k + x.size ≤ b.size) && (b.extract k (k + x.size)).toList == x.toList
def lineEnd (b : ByteArray) : Nat → Nat → Option Nat
  | 0, _ => none
  | n + 1, i => if i < b.size then (if bAt b i != 10 then lineEnd b n (i + 1) else some i) else some i
def blanksV (b : ByteArray) : Nat → Nat → Option (Nat × Bool)
  | 0, _ => none
  | n + 1, i =>
    if i < b.size then
      if decide (ixB k_sp_tab_nl_cr (bAt b i) ≥ 0) then blanksV b n (i + 1)
      else if hasB b i k_sl_sl then (match lineEnd b (b.size + 1) i with
        | none => none
        | some j => blanksV b n j)
      else if hasB b i k_sl_star then
        if decide (ixS (b.extract (i + 2) b.size) k_star_sl < 0) then some (i, false)
        else if i + (ixS (b.extract (i + 2) b.size) k_star_sl + 4).toNat ≤ b.size then blanksV b n (i + (ixS (b.extract (i + 2) b.size) k_star_sl + 4).toNat) else none
      else some (i, true)
    else some (i, true)
def cutT (b : ByteArray) (kind : Int) (i j : Nat) : Tok := ⟨kind, b.extract i j, i, j, ()⟩
def wordEnd (b : ByteArray) : Nat → Nat → Option Nat
  | 0, _ => none
  | n + 1, i => if i < b.size then (if letterB (bAt b i) || digitB (bAt b i) then wordEnd b n (i + 1) else some i) else some i
def wordV (b : ByteArray) (i : Nat) : Option Tok := match wordEnd b (b.size + 1) i with
  | none => none
  | some j => if i < j ∧ j ≤ b.size then some (cutT b (if resB (b.extract i j) then 2 else 1) i j) else none
def numEnd (b : ByteArray) : Nat → Nat → Int → Option (Nat × Int)
  | 0, _, _ => none
  | n + 1, i, v => if 0 ≤ v ∧ v ≤ 9007199254740992 then
      (if i < b.size ∧ digitB (bAt b i) = true then numEnd b n (i + 1) (if 9007199254740992 < v * 10 + (bAt b i - 48) then 9007199254740992 else v * 10 + (bAt b i - 48)) else some (i, v))
    else none
def numC (b : ByteArray) (i j : Nat) (v : Int) : Bool := decide (v > 9007199254740991) || ((bAt b i == 48) && decide (j > i + 1)) || (decide (j < b.size) && letterB (bAt b j))
def numberV (b : ByteArray) (i : Nat) : Option Tok := match numEnd b (b.size + 1) i 0 with
  | none => none
  | some (j, v) => if i < j ∧ j ≤ b.size then some (if numC b i j v then noTok else cutT b 3 i j) else none
def signsOf (k : Nat) : ByteArray := match k with
  | 0 => kLong79
  | 1 => kLong80
  | _ => kLong81
def signV (b : ByteArray) (i : Nat) : Nat → Nat → Option (Option Tok)
  | 0, _ => none
  | f + 1, k => if k < 3 then
      if decide ((b.size : Int) - i < 3 - (k : Int)) then signV b i f (k + 1)
      else if asciiB (b.extract i (i + (3 - k))) then
        if caS (b.extract i (i + (3 - k))) k_sp_tab_cr_nl then signV b i f (k + 1)
        else if !ctS (signsOf k) (k_sp ++ b.extract i (i + (3 - k)) ++ k_sp) then signV b i f (k + 1)
        else some (some (cutT b 9 i (i + (3 - k))))
      else none
    else some none
def signO (x : ByteArray) (o : List Bool) : Option (List Bool) :=
  if x.toList == k_lc.toList then (if o.length < 1048576 then some (o ++ [false]) else none)
  else if x.toList == k_rc.toList then some (o.take (o.length - 1)) else some o
def signW (b : ByteArray) (st : SSt) : Option (Tok × SSt) := match signV b st.pos 4 0 with
  | none => none
  | some none => some (noTok, st)
  | some (some t) => (signO t.text st.opn).map fun o => (t, { st with opn := o })
def startB (b : ByteArray) (c : Int) (st : SSt) : Option (Tok × SSt) :=
  if letterB c then (wordV b st.pos).map fun t => (t, st)
  else if digitB c then (numberV b st.pos).map fun t => (t, st)
  else if (c == 34) || (c == 39) then none
  else if c == 96 then none
  else if c == 125 && st.opn.getLast?.getD false then none
  else signW b st
def endV (b : ByteArray) (t : Tok) (st : SSt) : Option ((Tok × Bool) × SSt) :=
  if t.kind == 0 then some ((⟨0, kE, st.pos, 0, ()⟩, false), st)
  else if 0 ≤ t.fin ∧ t.fin ≤ b.size then some ((t, true), { st with pos := t.fin.toNat }) else none
def nextV (b : ByteArray) (st : SSt) : Option ((Tok × Bool) × SSt) := match blanksV b (b.size + 1) st.pos with
  | none => none
  | some (j, fine) =>
    if !fine then some ((⟨0, kE, j, 0, ()⟩, false), { st with pos := j })
    else if j = b.size then some ((⟨10, kE, j, j, ()⟩, true), { st with pos := j })
    else match startB b (bAt b j) { st with pos := j } with
      | none => none
      | some (t, st') => endV b t st'
def okS {ε σ α : Type} (x : Option (α × σ)) : Option (Res ε σ α) := x.map fun y => .ok y.1 y.2
end Go.Proofs.YtjlgcpgjdgeejaaGreatDoor
end

/- All tokens of a text, as a plain function. Conditions: none. -/
section
namespace Go.Proofs.YtjlgcpgjdgeejaaGreatDoor
open Go
set_option linter.unusedVariables false

def scanGo {σ : Type} (yS : Tok → Int → Sp Empty σ Bool) (b : ByteArray) : Nat → Nat → SSt → Sp Empty σ Unit
  | 0, _, _, _ => none
  | f + 1, n, s, st => match nextV b s with
    | none => none
    | some ((t, ok), s') =>
      if !ok then (yS ⟨0, kE, t.pos, 0, ()⟩ 3 >>= fun _ => Pure.pure ()) st
      else if n == 8192 && t.kind != 10 then (yS ⟨0, kE, t.pos, 0, ()⟩ 4 >>= fun _ => Pure.pure ()) st
      else (yS t 0 >>= fun c => if !c then Pure.pure () else if t.kind == 10 then Pure.pure () else scanGo yS b f (n + 1) s') st
def scanAll {σ : Type} (yS : Tok → Int → Sp Empty σ Bool) (b : ByteArray) : Sp Empty σ Unit :=
  if b.size > 65536 then (yS noTok 2 >>= fun _ => Pure.pure ()) else scanGo yS b 8194 0 ⟨0, []⟩
structure YSt where
  acc : List Tok
  fin : Option (Int × Int)
def yieldS (t : Tok) (e : Int) : Sp Empty YSt Bool := fun st =>
  if st.fin.isSome then none
  else if e != 0 then some (.ok false { st with fin := some (t.pos, e) })
  else if st.acc.length ≤ 65536 then some (.ok true { st with acc := st.acc ++ [t] }) else none
def tokensV (b : ByteArray) : Option (Sum (Int × Int) (List Tok)) := match scanAll yieldS b ⟨[], none⟩ with
  | some (.ok () st) => some (match st.fin with
    | some x => .inl x
    | none => .inr st.acc)
  | _ => none
end Go.Proofs.YtjlgcpgjdgeejaaGreatDoor
end

/- The trees of functions of the program, each with the proof that it is the tree of the translated code. Conditions: none. By program. -/
section
namespace Go.Proofs.YtjlgcpgjdgeejaaGreatDoor
open Go
set_option linter.unusedVariables false
set_option maxRecDepth 100000
noncomputable section
def an_scan_Letter : An :=
  .s (.r [none]) (.s (.r [none, none, none, none, none, none, none, none, none, none, none, none, none, none, none, none, none, none, none, none, none, none, none]) (.x))
def t_scan_Letter (a0_c : Int) : T :=
 .ite (decide ((a0_c : Int) ≥ 97)) (
 .ite (decide ((a0_c : Int) ≤ 122)) (
 .ret #[.v (.bool true)]) (
 .ite (decide ((a0_c : Int) ≥ 65)) (
 .ite (decide ((a0_c : Int) ≤ 90)) (
 .ret #[.v (.bool true)]) (
 .ite ((a0_c : Int) == 95) (
 .ret #[.v (.bool true)]) (
 .ret #[.v (.bool ((a0_c : Int) == 36))]))) (
 .ite ((a0_c : Int) == 95) (
 .ret #[.v (.bool true)]) (
 .ret #[.v (.bool ((a0_c : Int) == 36))])))) (
 .ite (decide ((a0_c : Int) ≥ 65)) (
 .ite (decide ((a0_c : Int) ≤ 90)) (
 .ret #[.v (.bool true)]) (
 .ite ((a0_c : Int) == 95) (
 .ret #[.v (.bool true)]) (
 .ret #[.v (.bool ((a0_c : Int) == 36))]))) (
 .ite ((a0_c : Int) == 95) (
 .ret #[.v (.bool true)]) (
 .ret #[.v (.bool ((a0_c : Int) == 36))])))
theorem d_scan_Letter (a0_c : Int) : fnT Tryz.prog Tryz.f107 an_scan_Letter [.int .u8 a0_c] = t_scan_Letter a0_c := by kernel_rfl
theorem c_scan_Letter {ε σ β : Type} {I : Ifc ε σ} {t : Ty} {s : Sp ε σ β} {Rel : β → t.den → Own → Fact} {Γ : List Fact} (a0_c : Int) (h : Sim Tryz.prog I t Rel noLabel none (t_scan_Letter a0_c) s [] Γ) : MeetsO Tryz.prog I (callS F_scan_Letter #[.int .u8 a0_c]) t s Rel Γ :=
  meets_of_sim (args := [.int .u8 a0_c]) Tryz.func107 rfl rfl (Nat.le_of_ble_eq_true rfl) (by rw [d_scan_Letter]; exact h)

def an_scan_Digit : An :=
  .s (.r [none]) (.s (.r [none, none, none, none, none, none, none]) (.x))
def t_scan_Digit (a0_c : Int) : T :=
 .ite (decide ((a0_c : Int) ≥ 48)) (
 .ret #[.v (.bool (decide ((a0_c : Int) ≤ 57)))]) (
 .ret #[.v (.bool false)])
theorem d_scan_Digit (a0_c : Int) : fnT Tryz.prog Tryz.f109 an_scan_Digit [.int .u8 a0_c] = t_scan_Digit a0_c := by kernel_rfl
theorem c_scan_Digit {ε σ β : Type} {I : Ifc ε σ} {t : Ty} {s : Sp ε σ β} {Rel : β → t.den → Own → Fact} {Γ : List Fact} (a0_c : Int) (h : Sim Tryz.prog I t Rel noLabel none (t_scan_Digit a0_c) s [] Γ) : MeetsO Tryz.prog I (callS F_scan_Digit #[.int .u8 a0_c]) t s Rel Γ :=
  meets_of_sim (args := [.int .u8 a0_c]) Tryz.func109 rfl rfl (Nat.le_of_ble_eq_true rfl) (by rw [d_scan_Digit]; exact h)

def an_scan_Reserved : An :=
  .s (.r [none]) (.s (.r [none, some tS, some tS, some tB, none]) (.x))
def t_scan_Reserved (a0_s : ByteArray) : T :=
 .op (binS .add T_string (.string k_sp) (.string a0_s)) tS fun r1 =>
 .op (binS .add T_string (.string r1) (.string k_sp)) tS fun r2 =>
 .op (callS F_strings_Contains #[.string kLong74, .string r2]) tB fun r3 =>
 .ret #[.v (.bool r3)]
theorem d_scan_Reserved (a0_s : ByteArray) : fnT Tryz.prog Tryz.f165 an_scan_Reserved [.string a0_s] = t_scan_Reserved a0_s := by kernel_rfl
theorem c_scan_Reserved {ε σ β : Type} {I : Ifc ε σ} {t : Ty} {s : Sp ε σ β} {Rel : β → t.den → Own → Fact} {Γ : List Fact} (a0_s : ByteArray) (h : Sim Tryz.prog I t Rel noLabel none (t_scan_Reserved a0_s) s [] Γ) : MeetsO Tryz.prog I (callS F_scan_Reserved #[.string a0_s]) t s Rel Γ :=
  meets_of_sim (args := [.string a0_s]) Tryz.func165 rfl rfl (Nat.le_of_ble_eq_true rfl) (by rw [d_scan_Reserved]; exact h)

def an_scan_Begin : An :=
  .s (.r [none]) (.s (.r [none, none, some tA, none]) (.x))
def t_scan_Begin (a0_b : Option Addr × Nat × Nat) : T :=
 .op (boxS T_scan_Scanner (.agg #[.slice a0_b.1 a0_b.2.1 a0_b.2.2, .int .i64 0, .slice none 0 0])) tA fun r1 =>
 .ret #[.v (.pointer (some r1))]
theorem d_scan_Begin (a0_b : Option Addr × Nat × Nat) : fnT Tryz.prog Tryz.f71 an_scan_Begin [.slice a0_b.1 a0_b.2.1 a0_b.2.2] = t_scan_Begin a0_b := by kernel_rfl
theorem c_scan_Begin {ε σ β : Type} {I : Ifc ε σ} {t : Ty} {s : Sp ε σ β} {Rel : β → t.den → Own → Fact} {Γ : List Fact} (a0_b : Option Addr × Nat × Nat) (h : Sim Tryz.prog I t Rel noLabel none (t_scan_Begin a0_b) s [] Γ) : MeetsO Tryz.prog I (callS F_scan_Begin #[.slice a0_b.1 a0_b.2.1 a0_b.2.2]) t s Rel Γ :=
  meets_of_sim (args := [.slice a0_b.1 a0_b.2.1 a0_b.2.2]) Tryz.func71 rfl rfl (Nat.le_of_ble_eq_true rfl) (by rw [d_scan_Begin]; exact h)

def an_Scanner_has : An :=
  .s (.r [none]) (.s (.r [none, none, none, some tSl, none, none, none, none, none, none, none, none, none, none, some tSl, none, none, none, none, none, some tSl, some tS, none, none, none, none]) (.x))
def t_Scanner_has (a0_s : Addr) (a1_at : Int) (a2_x : ByteArray) : T :=
 .op (ldS T_Suint8 (.pointer (some a0_s))) tSl fun r1 =>
 .ite (decide ((IntKind.i64.wrap ((r1.2.1 : Int) - a1_at) : Int) ≥ (a2_x.size : Int))) (
 .op (ldS T_Suint8 (.pointer (some a0_s))) tSl fun r2 =>
 .op (subS T_Suint8 (.slice r2.1 r2.2.1 r2.2.2) (some (.int .i64 a1_at)) (some (.int .i64 (IntKind.i64.wrap (a1_at + (a2_x.size : Int))))) none) tSl fun r3 =>
 .op (cvS T_Suint8 T_string (.slice r3.1 r3.2.1 r3.2.2)) tS fun r4 =>
 .ret #[.v (.bool (r4.toList == a2_x.toList))]) (
 .ret #[.v (.bool false)])
theorem d_Scanner_has (a0_s : Addr) (a1_at : Int) (a2_x : ByteArray) : fnT Tryz.prog Tryz.f162 an_Scanner_has [.pointer (some a0_s), .int .i64 a1_at, .string a2_x] = t_Scanner_has a0_s a1_at a2_x := by kernel_rfl
theorem c_Scanner_has {ε σ β : Type} {I : Ifc ε σ} {t : Ty} {s : Sp ε σ β} {Rel : β → t.den → Own → Fact} {Γ : List Fact} (a0_s : Addr) (a1_at : Int) (a2_x : ByteArray) (h : Sim Tryz.prog I t Rel noLabel none (t_Scanner_has a0_s a1_at a2_x) s [] Γ) : MeetsO Tryz.prog I (callS F_Scanner_has #[.pointer (some a0_s), .int .i64 a1_at, .string a2_x]) t s Rel Γ :=
  meets_of_sim (args := [.pointer (some a0_s), .int .i64 a1_at, .string a2_x]) Tryz.func162 rfl rfl (Nat.le_of_ble_eq_true rfl) (by rw [d_Scanner_has]; exact h)

def an_Scanner_cut : An :=
  .s (.r [some tA]) (.s (.d (.q 0 none (.q 1 none (.q 2 none (.q 3 none (.q 4 (some tSl) (.q 5 none (.q 6 none (.q 7 none (.q 8 (some tI) (.q 9 none (.q 10 (some tSl) (.q 11 (some tS) (.q 12 none (.q 13 none (.q 14 none (.q 15 (some tI) (.q 16 none (.q 17 none (.l 18 (some tU) (.e))))))))))))))))))))) (.x))
def t_Scanner_cut (a0_s : Addr) (a1_kind : Int) (a2_end : Int) : T :=
 .op (allocS T_api_Token) tA fun r1 =>
 .draw <|
 .opq (ldS T_Suint8 (.pointer (some a0_s))) tSl fun r2 =>
 .opq (ldS T_int (.pointer (some ⟨a0_s.block, a0_s.off + 1, none⟩))) tI fun r3 =>
 .opq (subS T_Suint8 (.slice r2.1 r2.2.1 r2.2.2) (some (.int .i64 r3)) (some (.int .i64 a2_end)) none) tSl fun r4 =>
 .opq (cvS T_Suint8 T_string (.slice r4.1 r4.2.1 r4.2.2)) tS fun r5 =>
 .opq (ldS T_int (.pointer (some ⟨a0_s.block, a0_s.off + 1, none⟩))) tI fun r6 =>
 .op (stS T_api_Token (.pointer (some r1)) (.agg #[.int .i64 a1_kind, .string r5, .int .i64 r6, .int .i64 a2_end])) tU fun _ =>
 .ret #[.c (.pointer (some r1)) T_api_Token]
theorem d_Scanner_cut (a0_s : Addr) (a1_kind : Int) (a2_end : Int) : fnT Tryz.prog Tryz.f164 an_Scanner_cut [.pointer (some a0_s), .int .i64 a1_kind, .int .i64 a2_end] = t_Scanner_cut a0_s a1_kind a2_end := by kernel_rfl
theorem c_Scanner_cut {ε σ β : Type} {I : Ifc ε σ} {t : Ty} {s : Sp ε σ β} {Rel : β → t.den → Own → Fact} {Γ : List Fact} (a0_s : Addr) (a1_kind : Int) (a2_end : Int) (h : Sim Tryz.prog I t Rel noLabel none (t_Scanner_cut a0_s a1_kind a2_end) s [] Γ) : MeetsO Tryz.prog I (callS F_Scanner_cut #[.pointer (some a0_s), .int .i64 a1_kind, .int .i64 a2_end]) t s Rel Γ :=
  meets_of_sim (args := [.pointer (some a0_s), .int .i64 a1_kind, .int .i64 a2_end]) Tryz.func164 rfl rfl (Nat.le_of_ble_eq_true rfl) (by rw [d_Scanner_cut]; exact h)

def an_Scanner_word : An :=
  .s (.r [some tA]) (.s (.r [none, none, none, some tI, none]) (.s (.j [(3, .b (.int .i64))] (.b (.l [(3, .b (.int .i64))] (.s (.s (.r [none, none, none, none, some tSl, none, none, none, none, none, none, some tSl, none, some tA, some tU8, some tB, none, none, none, none, some tSl, none, some tA, some tU8, some tB, none, none]) (.c (.x) (.x))) (.b (.r [none, none, none])))))) (.s (.r [none, none, some (.c (.agg [.int .i64, .str, .int .i64, .int .i64])), some tA, some tU]) (.s (.s (.r [none, some tS, some tB]) (.c (.r [none, some tU]) (.x))) (.s (.r [some (.c (.agg [.int .i64, .str, .int .i64, .int .i64])), some tU]) (.x))))))
def t_Scanner_word (a0_s : Addr) : T :=
 .op (allocS T_api_Token) tA fun r1 =>
 .op (ldS T_int (.pointer (some ⟨a0_s.block, a0_s.off + 1, none⟩))) tI fun r2 =>
 .join 0 [.b (.int .i64)] (
 .loop 1 [.b (.int .i64)] [.int .i64 r2] fun x3 =>
 .op (ldS T_Suint8 (.pointer (some a0_s))) tSl fun r4 =>
 .ite (decide ((x3.1 : Int) < (r4.2.1 : Int))) (
 .op (ldS T_Suint8 (.pointer (some a0_s))) tSl fun r5 =>
 .op (idxAS T_Suint8 (.slice r5.1 r5.2.1 r5.2.2) (.int .i64 x3.1)) tA fun r6 =>
 .op (ldS T_uint8 (.pointer (some r6))) tU8 fun r7 =>
 .op (callS F_scan_Letter #[.int .u8 r7]) tB fun r8 =>
 .ite r8 (
 .out 1 [.int .i64 (IntKind.i64.wrap (x3.1 + 1))]) (
 .op (ldS T_Suint8 (.pointer (some a0_s))) tSl fun r9 =>
 .op (idxAS T_Suint8 (.slice r9.1 r9.2.1 r9.2.2) (.int .i64 x3.1)) tA fun r10 =>
 .op (ldS T_uint8 (.pointer (some r10))) tU8 fun r11 =>
 .op (callS F_scan_Digit #[.int .u8 r11]) tB fun r12 =>
 .ite r12 (
 .out 1 [.int .i64 (IntKind.i64.wrap (x3.1 + 1))]) (
 .out 0 [.int .i64 x3.1]))) (
 .out 0 [.int .i64 x3.1])) fun x13 =>
 .op (callS F_Scanner_cut #[.pointer (some a0_s), .int .i64 1, .int .i64 x13.1]) (.c (.agg [.int .i64, .str, .int .i64, .int .i64])) fun r14 =>
 .op (allocS T_api_Token) tA fun r15 =>
 .op (stS T_api_Token (.pointer (some r15)) (.agg #[.int .i64 r14.1, .string r14.2.1, .int .i64 r14.2.2.1, .int .i64 r14.2.2.2.1])) tU fun _ =>
 .op (ldS T_string (.pointer (some ⟨r15.block, r15.off + 1, none⟩))) tS fun r17 =>
 .op (callS F_scan_Reserved #[.string r17]) tB fun r18 =>
 .ite r18 (
 .op (stS T_int (.pointer (some r15)) (.int .i64 2)) tU fun _ =>
 .op (ldS T_api_Token (.pointer (some r15))) (.c (.agg [.int .i64, .str, .int .i64, .int .i64])) fun r20 =>
 .op (stS T_api_Token (.pointer (some r1)) (.agg #[.int .i64 r20.1, .string r20.2.1, .int .i64 r20.2.2.1, .int .i64 r20.2.2.2.1])) tU fun _ =>
 .ret #[.c (.pointer (some r1)) T_api_Token]) (
 .op (ldS T_api_Token (.pointer (some r15))) (.c (.agg [.int .i64, .str, .int .i64, .int .i64])) fun r22 =>
 .op (stS T_api_Token (.pointer (some r1)) (.agg #[.int .i64 r22.1, .string r22.2.1, .int .i64 r22.2.2.1, .int .i64 r22.2.2.2.1])) tU fun _ =>
 .ret #[.c (.pointer (some r1)) T_api_Token])
theorem d_Scanner_word (a0_s : Addr) : fnT Tryz.prog Tryz.f108 an_Scanner_word [.pointer (some a0_s)] = t_Scanner_word a0_s := by kernel_rfl
theorem c_Scanner_word {ε σ β : Type} {I : Ifc ε σ} {t : Ty} {s : Sp ε σ β} {Rel : β → t.den → Own → Fact} {Γ : List Fact} (a0_s : Addr) (h : Sim Tryz.prog I t Rel noLabel none (t_Scanner_word a0_s) s [] Γ) : MeetsO Tryz.prog I (callS F_Scanner_word #[.pointer (some a0_s)]) t s Rel Γ :=
  meets_of_sim (args := [.pointer (some a0_s)]) Tryz.func108 rfl rfl (Nat.le_of_ble_eq_true rfl) (by rw [d_Scanner_word]; exact h)

def an_Scanner_number : An :=
  .s (.r [some tA]) (.s (.r [none, none, none, some tI, none, none]) (.s (.j [(3, .b (.int .i64)), (4, .b (.int .i64))] (.b (.l [(3, .b (.int .i64)), (4, .b (.int .i64))] (.s (.s (.j [(25, .b .bool)] (.r [none, none, none, none, some tSl, none, none, none, none, none, none, some tSl, none, some tA, some tU8, some tB, none])) (.c (.x) (.x))) (.s (.b (.r [none, none, none, none, none, some tSl, none, some tA, some tU8, none, none, none, none, none])) (.r [none, none, none])))))) (.s (.b (.s (.s (.r [none, none, none]) (.j [(41, .b .bool)] (.c (.x) (.s (.j [(41, .b .bool)] (.d (.q 0 none (.q 1 none (.q 2 none (.q 3 (some tSl) (.q 4 none (.q 5 none (.q 6 none (.q 7 (some tI) (.q 8 (some tA) (.q 9 (some tU8) (.q 10 none (.q 11 none (.q 12 none (.q 13 none (.q 14 none (.q 15 none (.q 16 (some tI) (.q 17 none (.q 18 none (.q 19 none (.q 20 none (.e)))))))))))))))))))))))) (.c (.x) (.r [none, none, none, none, some tSl, none, none, none, none, none, none, some tSl, none, some tA, some tU8, some tB, none, none])))))) (.c (.s (.r [none, some tU]) (.x)) (.x)))) (.s (.r [none, none, some (.c (.agg [.int .i64, .str, .int .i64, .int .i64])), some tU]) (.x)))))
def t_Scanner_number (a0_a0 : Addr) : T :=
 .op (allocS T_api_Token) tA fun r1 =>
 .op (ldS T_int (.pointer (some ⟨a0_a0.block, a0_a0.off + 1, none⟩))) tI fun r2 =>
 .join 0 [.b (.int .i64), .b (.int .i64)] (
 .loop 1 [.b (.int .i64), .b (.int .i64)] [.int .i64 r2, .int .i64 0] fun x3 =>
 .join 2 [.b .bool] (
 .op (ldS T_Suint8 (.pointer (some a0_a0))) tSl fun r4 =>
 .ite (decide ((x3.1 : Int) < (r4.2.1 : Int))) (
 .op (ldS T_Suint8 (.pointer (some a0_a0))) tSl fun r5 =>
 .op (idxAS T_Suint8 (.slice r5.1 r5.2.1 r5.2.2) (.int .i64 x3.1)) tA fun r6 =>
 .op (ldS T_uint8 (.pointer (some r6))) tU8 fun r7 =>
 .op (callS F_scan_Digit #[.int .u8 r7]) tB fun r8 =>
 .out 2 [.bool r8]) (
 .out 2 [.bool false])) fun x9 =>
 .ite x9.1 (
 .op (ldS T_Suint8 (.pointer (some a0_a0))) tSl fun r10 =>
 .op (idxAS T_Suint8 (.slice r10.1 r10.2.1 r10.2.2) (.int .i64 x3.1)) tA fun r11 =>
 .op (ldS T_uint8 (.pointer (some r11))) tU8 fun r12 =>
 .out 1 [.int .i64 (IntKind.i64.wrap (x3.1 + 1)), .int .i64 (if (9007199254740992 : Int) < (IntKind.i64.wrap ((IntKind.i64.wrap (x3.2.1 * 10)) + (IntKind.i64.wrap (IntKind.u8.wrap (r12 - 48))))) then 9007199254740992 else IntKind.i64.wrap ((IntKind.i64.wrap (x3.2.1 * 10)) + (IntKind.i64.wrap (IntKind.u8.wrap (r12 - 48)))))]) (
 .out 0 [.int .i64 x3.1, .int .i64 x3.2.1])) fun x13 =>
 .join 0 [.b .bool] (
 .ite (decide ((x13.2.1 : Int) > 9007199254740991)) (
 .out 0 [.bool true]) (
 .join 1 [.b .bool] (
 .draw <|
 .opq (ldS T_Suint8 (.pointer (some a0_a0))) tSl fun r14 =>
 .opq (ldS T_int (.pointer (some ⟨a0_a0.block, a0_a0.off + 1, none⟩))) tI fun r15 =>
 .opq (idxAS T_Suint8 (.slice r14.1 r14.2.1 r14.2.2) (.int .i64 r15)) tA fun r16 =>
 .opq (ldS T_uint8 (.pointer (some r16))) tU8 fun r17 =>
 .ite ((r17 : Int) == 48) (
 .opq (ldS T_int (.pointer (some ⟨a0_a0.block, a0_a0.off + 1, none⟩))) tI fun r18 =>
 .out 1 [.bool (decide ((x13.1 : Int) > (IntKind.i64.wrap (r18 + 1))))]) (
 .out 1 [.bool false])) fun x19 =>
 .ite x19.1 (
 .out 0 [.bool true]) (
 .op (ldS T_Suint8 (.pointer (some a0_a0))) tSl fun r20 =>
 .ite (decide ((x13.1 : Int) < (r20.2.1 : Int))) (
 .op (ldS T_Suint8 (.pointer (some a0_a0))) tSl fun r21 =>
 .op (idxAS T_Suint8 (.slice r21.1 r21.2.1 r21.2.2) (.int .i64 x13.1)) tA fun r22 =>
 .op (ldS T_uint8 (.pointer (some r22))) tU8 fun r23 =>
 .op (callS F_scan_Letter #[.int .u8 r23]) tB fun r24 =>
 .out 0 [.bool r24]) (
 .out 0 [.bool false])))) fun x25 =>
 .ite x25.1 (
 .op (stS T_api_Token (.pointer (some r1)) (.agg #[.int .i64 0, .string kE, .int .i64 0, .int .i64 0])) tU fun _ =>
 .ret #[.c (.pointer (some r1)) T_api_Token]) (
 .op (callS F_Scanner_cut #[.pointer (some a0_a0), .int .i64 3, .int .i64 x13.1]) (.c (.agg [.int .i64, .str, .int .i64, .int .i64])) fun r27 =>
 .op (stS T_api_Token (.pointer (some r1)) (.agg #[.int .i64 r27.1, .string r27.2.1, .int .i64 r27.2.2.1, .int .i64 r27.2.2.2.1])) tU fun _ =>
 .ret #[.c (.pointer (some r1)) T_api_Token])
theorem d_Scanner_number (a0_a0 : Addr) : fnT Tryz.prog Tryz.f110 an_Scanner_number [.pointer (some a0_a0)] = t_Scanner_number a0_a0 := by kernel_rfl
theorem c_Scanner_number {ε σ β : Type} {I : Ifc ε σ} {t : Ty} {s : Sp ε σ β} {Rel : β → t.den → Own → Fact} {Γ : List Fact} (a0_a0 : Addr) (h : Sim Tryz.prog I t Rel noLabel none (t_Scanner_number a0_a0) s [] Γ) : MeetsO Tryz.prog I (callS F_Scanner_number #[.pointer (some a0_a0)]) t s Rel Γ :=
  meets_of_sim (args := [.pointer (some a0_a0)]) Tryz.func110 rfl rfl (Nat.le_of_ble_eq_true rfl) (by rw [d_Scanner_number]; exact h)

def an_Scanner_blanks : An :=
  .s (.r [none]) (.b (.s (.x) (.s (.b (.l [] (.s (.s (.d (.q 0 none (.q 1 none (.q 2 none (.q 3 (some tI) (.q 4 none (.q 5 none (.q 6 none (.q 7 (some tSl) (.q 8 none (.q 9 none (.e)))))))))))) (.c (.x) (.x))) (.b (.b (.s (.d (.q 0 none (.q 1 none (.q 2 none (.q 3 (some tSl) (.q 4 none (.q 5 none (.q 6 none (.q 7 (some tI) (.q 8 (some tA) (.q 9 (some tU8) (.l 10 (some tI) (.q 11 none (.q 12 none (.e))))))))))))))) (.c (.r [none, none, none, some tI, none, none, none, some tU]) (.s (.r [none, none, none, none, some tI, some tB, none]) (.c (.b (.l [] (.s (.s (.j [(63, .b .bool)] (.d (.q 0 none (.q 1 none (.q 2 none (.q 3 (some tI) (.q 4 none (.q 5 none (.q 6 none (.q 7 (some tSl) (.q 8 none (.q 9 none (.q 10 none (.q 11 none (.q 12 none (.q 13 none (.q 14 (some tSl) (.q 15 none (.q 16 none (.q 17 none (.q 18 (some tI) (.q 19 (some tA) (.q 20 (some tU8) (.q 21 none (.q 22 none (.e)))))))))))))))))))))))))) (.c (.x) (.x))) (.b (.r [none, none, none, some tI, none, none, none, some tU]))))) (.s (.r [none, none, none, none, some tI, some tB, none]) (.c (.s (.d (.q 0 none (.q 1 none (.q 2 none (.q 3 (some tSl) (.q 4 none (.q 5 none (.q 6 none (.q 7 (some tI) (.q 8 none (.q 9 (some tSl) (.q 10 (some tS) (.l 11 (some tI) (.q 12 none (.e))))))))))))))) (.s (.s (.r [none, none]) (.c (.s (.r [none]) (.x)) (.x))) (.r [none, none, none, some tI, none, none, none, none, none, some tU]))) (.x)))))))))))) (.s (.r [none]) (.x)))))
def t_Scanner_blanks (a0_a0 : Addr) : T :=
 .loop 0 [] [] fun x1 =>
 .draw <|
 .opq (ldS T_int (.pointer (some ⟨a0_a0.block, a0_a0.off + 1, none⟩))) tI fun r2 =>
 .opq (ldS T_Suint8 (.pointer (some a0_a0))) tSl fun r3 =>
 .ite (decide ((r2 : Int) < (r3.2.1 : Int))) (
 .draw <|
 .opq (ldS T_Suint8 (.pointer (some a0_a0))) tSl fun r4 =>
 .opq (ldS T_int (.pointer (some ⟨a0_a0.block, a0_a0.off + 1, none⟩))) tI fun r5 =>
 .opq (idxAS T_Suint8 (.slice r4.1 r4.2.1 r4.2.2) (.int .i64 r5)) tA fun r6 =>
 .opq (ldS T_uint8 (.pointer (some r6))) tU8 fun r7 =>
 .opl (callS F_strings_IndexByte #[.string k_sp_tab_nl_cr, .int .u8 r7]) tI fun r8 =>
 .ite (decide ((r8 : Int) ≥ 0)) (
 .op (ldS T_int (.pointer (some ⟨a0_a0.block, a0_a0.off + 1, none⟩))) tI fun r9 =>
 .op (stS T_int (.pointer (some ⟨a0_a0.block, a0_a0.off + 1, none⟩)) (.int .i64 (IntKind.i64.wrap (r9 + 1)))) tU fun _ =>
 .out 0 []) (
 .op (ldS T_int (.pointer (some ⟨a0_a0.block, a0_a0.off + 1, none⟩))) tI fun r11 =>
 .op (callS F_Scanner_has #[.pointer (some a0_a0), .int .i64 r11, .string k_sl_sl]) tB fun r12 =>
 .ite r12 (
 .loop 1 [] [] fun x13 =>
 .join 2 [.b .bool] (
 .draw <|
 .opq (ldS T_int (.pointer (some ⟨a0_a0.block, a0_a0.off + 1, none⟩))) tI fun r14 =>
 .opq (ldS T_Suint8 (.pointer (some a0_a0))) tSl fun r15 =>
 .ite (decide ((r14 : Int) < (r15.2.1 : Int))) (
 .opq (ldS T_Suint8 (.pointer (some a0_a0))) tSl fun r16 =>
 .opq (ldS T_int (.pointer (some ⟨a0_a0.block, a0_a0.off + 1, none⟩))) tI fun r17 =>
 .opq (idxAS T_Suint8 (.slice r16.1 r16.2.1 r16.2.2) (.int .i64 r17)) tA fun r18 =>
 .opq (ldS T_uint8 (.pointer (some r18))) tU8 fun r19 =>
 .out 2 [.bool ((r19 : Int) != 10)]) (
 .out 2 [.bool false])) fun x20 =>
 .ite x20.1 (
 .op (ldS T_int (.pointer (some ⟨a0_a0.block, a0_a0.off + 1, none⟩))) tI fun r21 =>
 .op (stS T_int (.pointer (some ⟨a0_a0.block, a0_a0.off + 1, none⟩)) (.int .i64 (IntKind.i64.wrap (r21 + 1)))) tU fun _ =>
 .out 1 []) (
 .out 0 [])) (
 .op (ldS T_int (.pointer (some ⟨a0_a0.block, a0_a0.off + 1, none⟩))) tI fun r23 =>
 .op (callS F_Scanner_has #[.pointer (some a0_a0), .int .i64 r23, .string k_sl_star]) tB fun r24 =>
 .ite r24 (
 .draw <|
 .opq (ldS T_Suint8 (.pointer (some a0_a0))) tSl fun r25 =>
 .opq (ldS T_int (.pointer (some ⟨a0_a0.block, a0_a0.off + 1, none⟩))) tI fun r26 =>
 .opq (subS T_Suint8 (.slice r25.1 r25.2.1 r25.2.2) (some (.int .i64 (IntKind.i64.wrap (r26 + 2)))) none none) tSl fun r27 =>
 .opq (cvS T_Suint8 T_string (.slice r27.1 r27.2.1 r27.2.2)) tS fun r28 =>
 .opl (callS F_strings_Index #[.string r28, .string k_star_sl]) tI fun r29 =>
 .ite (decide ((r29 : Int) < 0)) (
 .ret #[.v (.bool false)]) (
 .op (ldS T_int (.pointer (some ⟨a0_a0.block, a0_a0.off + 1, none⟩))) tI fun r30 =>
 .op (stS T_int (.pointer (some ⟨a0_a0.block, a0_a0.off + 1, none⟩)) (.int .i64 (IntKind.i64.wrap (r30 + (IntKind.i64.wrap (r29 + 4)))))) tU fun _ =>
 .out 0 [])) (
 .ret #[.v (.bool true)])))) (
 .ret #[.v (.bool true)])
theorem d_Scanner_blanks (a0_a0 : Addr) : fnT Tryz.prog Tryz.f106 an_Scanner_blanks [.pointer (some a0_a0)] = t_Scanner_blanks a0_a0 := by kernel_rfl
theorem c_Scanner_blanks {ε σ β : Type} {I : Ifc ε σ} {t : Ty} {s : Sp ε σ β} {Rel : β → t.den → Own → Fact} {Γ : List Fact} (a0_a0 : Addr) (h : Sim Tryz.prog I t Rel noLabel none (t_Scanner_blanks a0_a0) s [] Γ) : MeetsO Tryz.prog I (callS F_Scanner_blanks #[.pointer (some a0_a0)]) t s Rel Γ :=
  meets_of_sim (args := [.pointer (some a0_a0)]) Tryz.func106 rfl rfl (Nat.le_of_ble_eq_true rfl) (by rw [d_Scanner_blanks]; exact h)

def an_Scanner_sign : An :=
  .s (.r [some tA]) (.s (.r [none, some tA, some tU]) (.s (.s (.r [some (.c (.agg [.str, .str, .str])), none]) (.j [] (.b (.l [(10, .b (.int .i64))] (.s (.r [none]) (.s (.c (.x) (.x)) (.s (.b (.s (.r [none, some tS, none, none]) (.s (.r [none, none, none]) (.s (.s (.d (.q 0 none (.q 1 none (.q 2 none (.q 3 (some tSl) (.q 4 none (.q 5 none (.q 6 none (.q 7 none (.q 8 (some tI) (.q 9 none (.q 10 none (.q 11 none (.e)))))))))))))) (.c (.x) (.x))) (.s (.r [none, none, none, none, some tI, none, none, some (.c (.agg [.int .i64, .str, .int .i64, .int .i64])), some tA, some tU]) (.s (.s (.j [(47, .b .bool)] (.r [none, some tS, some tB, none, none, none, some tS, some tS, some tS, some tB, none, none])) (.c (.x) (.x))) (.s (.s (.r [none, some tS]) (.b (.s (.r [none, none]) (.c (.r [none, none, none, none, some tSl, some tSl, some tSl, none, none, some tU]) (.s (.r [none, none]) (.c (.d (.q 0 none (.q 1 none (.q 2 none (.q 3 none (.q 4 (some tSl) (.q 5 none (.q 6 none (.q 7 none (.q 8 (some tSl) (.q 9 none (.q 10 none (.q 11 none (.q 12 (some tSl) (.q 13 none (.q 14 none (.l 15 (some tU) (.e)))))))))))))))))) (.x))))))) (.s (.r [some (.c (.agg [.int .i64, .str, .int .i64, .int .i64])), some tU]) (.x))))))))) (.r [none, none])))))))) (.s (.r [none, some tU]) (.x))))
def t_Scanner_sign (a0_a0 : Addr) : T :=
 .op (allocS T_api_Token) tA fun r1 =>
 .op (allocS T_A3string) tA fun r2 =>
 .op (stS T_A3string (.pointer (some r2)) (.agg #[.string kLong79, .string kLong80, .string kLong81])) tU fun _ =>
 .op (ldS T_A3string (.pointer (some r2))) (.c (.agg [.str, .str, .str])) fun r4 =>
 .join 0 [] (
 .loop 1 [.b (.int .i64)] [.int .i64 0] fun x5 =>
 .ite (decide ((x5.1 : Int) < 3)) (
 .op (idxS T_A3string (.agg #[.string r4.1, .string r4.2.1, .string r4.2.2.1]) (.int .i64 x5.1)) tS fun r6 =>
 .draw <|
 .opq (ldS T_Suint8 (.pointer (some a0_a0))) tSl fun r7 =>
 .opq (ldS T_int (.pointer (some ⟨a0_a0.block, a0_a0.off + 1, none⟩))) tI fun r8 =>
 .ite (decide ((IntKind.i64.wrap ((r7.2.1 : Int) - r8) : Int) < (IntKind.i64.wrap (3 - x5.1)))) (
 .out 1 [.int .i64 (IntKind.i64.wrap (x5.1 + 1))]) (
 .op (ldS T_int (.pointer (some ⟨a0_a0.block, a0_a0.off + 1, none⟩))) tI fun r9 =>
 .op (callS F_Scanner_cut #[.pointer (some a0_a0), .int .i64 9, .int .i64 (IntKind.i64.wrap (r9 + (IntKind.i64.wrap (3 - x5.1))))]) (.c (.agg [.int .i64, .str, .int .i64, .int .i64])) fun r10 =>
 .op (allocS T_api_Token) tA fun r11 =>
 .op (stS T_api_Token (.pointer (some r11)) (.agg #[.int .i64 r10.1, .string r10.2.1, .int .i64 r10.2.2.1, .int .i64 r10.2.2.2.1])) tU fun _ =>
 .join 2 [.b .bool] (
 .op (ldS T_string (.pointer (some ⟨r11.block, r11.off + 1, none⟩))) tS fun r13 =>
 .op (callS F_strings_ContainsAny #[.string r13, .string k_sp_tab_cr_nl]) tB fun r14 =>
 .ite r14 (
 .out 2 [.bool true]) (
 .op (ldS T_string (.pointer (some ⟨r11.block, r11.off + 1, none⟩))) tS fun r15 =>
 .op (binS .add T_string (.string k_sp) (.string r15)) tS fun r16 =>
 .op (binS .add T_string (.string r16) (.string k_sp)) tS fun r17 =>
 .op (callS F_strings_Contains #[.string r6, .string r17]) tB fun r18 =>
 .out 2 [.bool (!r18)])) fun x19 =>
 .ite x19.1 (
 .out 1 [.int .i64 (IntKind.i64.wrap (x5.1 + 1))]) (
 .op (ldS T_string (.pointer (some ⟨r11.block, r11.off + 1, none⟩))) tS fun r20 =>
 .ite (r20.toList == k_lc.toList) (
 .op (ldS T_Sbool (.pointer (some ⟨a0_a0.block, a0_a0.off + 2, none⟩))) tSl fun r21 =>
 .op (sliceS T_Sbool 1 #[(0, .bool false)]) tSl fun r22 =>
 .op (appS #[T_Sbool, T_Sbool] T_Sbool #[.slice r21.1 r21.2.1 r21.2.2, .slice r22.1 r22.2.1 r22.2.2]) tSl fun r23 =>
 .op (stS T_Sbool (.pointer (some ⟨a0_a0.block, a0_a0.off + 2, none⟩)) (.slice r23.1 r23.2.1 r23.2.2)) tU fun _ =>
 .op (ldS T_api_Token (.pointer (some r11))) (.c (.agg [.int .i64, .str, .int .i64, .int .i64])) fun r25 =>
 .op (stS T_api_Token (.pointer (some r1)) (.agg #[.int .i64 r25.1, .string r25.2.1, .int .i64 r25.2.2.1, .int .i64 r25.2.2.2.1])) tU fun _ =>
 .ret #[.c (.pointer (some r1)) T_api_Token]) (
 .ite (r20.toList == k_rc.toList) (
 .draw <|
 .opq (ldS T_Sbool (.pointer (some ⟨a0_a0.block, a0_a0.off + 2, none⟩))) tSl fun r27 =>
 .opq (ldS T_Sbool (.pointer (some ⟨a0_a0.block, a0_a0.off + 2, none⟩))) tSl fun r28 =>
 .opq (subS T_Sbool (.slice r27.1 r27.2.1 r27.2.2) none (some (.int .i64 (if (IntKind.i64.wrap ((r28.2.1 : Int) - 1) : Int) > 0 then IntKind.i64.wrap ((r28.2.1 : Int) - 1) else 0))) none) tSl fun r29 =>
 .op (stS T_Sbool (.pointer (some ⟨a0_a0.block, a0_a0.off + 2, none⟩)) (.slice r29.1 r29.2.1 r29.2.2)) tU fun _ =>
 .op (ldS T_api_Token (.pointer (some r11))) (.c (.agg [.int .i64, .str, .int .i64, .int .i64])) fun r31 =>
 .op (stS T_api_Token (.pointer (some r1)) (.agg #[.int .i64 r31.1, .string r31.2.1, .int .i64 r31.2.2.1, .int .i64 r31.2.2.2.1])) tU fun _ =>
 .ret #[.c (.pointer (some r1)) T_api_Token]) (
 .op (ldS T_api_Token (.pointer (some r11))) (.c (.agg [.int .i64, .str, .int .i64, .int .i64])) fun r33 =>
 .op (stS T_api_Token (.pointer (some r1)) (.agg #[.int .i64 r33.1, .string r33.2.1, .int .i64 r33.2.2.1, .int .i64 r33.2.2.2.1])) tU fun _ =>
 .ret #[.c (.pointer (some r1)) T_api_Token]))))) (
 .out 0 [])) fun x35 =>
 .op (stS T_api_Token (.pointer (some r1)) (.agg #[.int .i64 0, .string kE, .int .i64 0, .int .i64 0])) tU fun _ =>
 .ret #[.c (.pointer (some r1)) T_api_Token]
theorem d_Scanner_sign (a0_a0 : Addr) : fnT Tryz.prog Tryz.f113 an_Scanner_sign [.pointer (some a0_a0)] = t_Scanner_sign a0_a0 := by kernel_rfl
theorem c_Scanner_sign {ε σ β : Type} {I : Ifc ε σ} {t : Ty} {s : Sp ε σ β} {Rel : β → t.den → Own → Fact} {Γ : List Fact} (a0_a0 : Addr) (h : Sim Tryz.prog I t Rel noLabel none (t_Scanner_sign a0_a0) s [] Γ) : MeetsO Tryz.prog I (callS F_Scanner_sign #[.pointer (some a0_a0)]) t s Rel Γ :=
  meets_of_sim (args := [.pointer (some a0_a0)]) Tryz.func113 rfl rfl (Nat.le_of_ble_eq_true rfl) (by rw [d_Scanner_sign]; exact h)
end
end Go.Proofs.YtjlgcpgjdgeejaaGreatDoor
end

/- The trees of functions of the program, each with the proof that it is the tree of the translated code. Conditions: none. By program. -/
section
namespace Go.Proofs.YtjlgcpgjdgeejaaGreatDoor
open Go
set_option linter.unusedVariables false
set_option maxRecDepth 100000
noncomputable section
def an_parser_arrow : An :=
  .s (.r [none]) (.s (.b (.s (.r [none, some (.c (.agg [.int .i64, .str, .int .i64, .int .i64])), none, none, none]) (.c (.s (.r [none, some (.c (.agg [.int .i64, .str, .int .i64, .int .i64])), some tB, none]) (.x)) (.s (.r [none, some tB, none]) (.c (.s (.r [none, some (.c (.agg [.int .i64, .str, .int .i64, .int .i64])), some tB, none]) (.x)) (.x)))))) (.s (.r [none, some tB, none]) (.x)))
def t_parser_arrow (a0_p : Addr) : T :=
 .op (callS F_parser_now #[.pointer (some a0_p)]) (.c (.agg [.int .i64, .str, .int .i64, .int .i64])) fun r1 =>
 .ite ((r1.1 : Int) == 1) (
 .op (callS F_parser_then #[.pointer (some a0_p), .int .i64 1]) (.c (.agg [.int .i64, .str, .int .i64, .int .i64])) fun r2 =>
 .op (callS F_syntax_says #[.agg #[.int .i64 r2.1, .string r2.2.1, .int .i64 r2.2.2.1, .int .i64 r2.2.2.2.1], .string k_eq_gt]) tB fun r3 =>
 .ret #[.v (.bool r3)]) (
 .op (callS F_parser_is #[.pointer (some a0_p), .string k_lp]) tB fun r4 =>
 .ite r4 (
 .op (callS F_parser_closed #[.pointer (some a0_p)]) (.c (.agg [.int .i64, .str, .int .i64, .int .i64])) fun r5 =>
 .op (callS F_syntax_says #[.agg #[.int .i64 r5.1, .string r5.2.1, .int .i64 r5.2.2.1, .int .i64 r5.2.2.2.1], .string k_eq_gt]) tB fun r6 =>
 .ret #[.v (.bool r6)]) (
 .op (callS F_parser_is #[.pointer (some a0_p), .string k_lt]) tB fun r7 =>
 .ret #[.v (.bool r7)]))
theorem d_parser_arrow (a0_p : Addr) : fnT Tryz.prog Tryz.f141 an_parser_arrow [.pointer (some a0_p)] = t_parser_arrow a0_p := by kernel_rfl
theorem c_parser_arrow {ε σ β : Type} {I : Ifc ε σ} {t : Ty} {s : Sp ε σ β} {Rel : β → t.den → Own → Fact} {Γ : List Fact} (a0_p : Addr) (h : Sim Tryz.prog I t Rel noLabel none (t_parser_arrow a0_p) s [] Γ) : MeetsO Tryz.prog I (callS F_parser_arrow #[.pointer (some a0_p)]) t s Rel Γ :=
  meets_of_sim (args := [.pointer (some a0_p)]) Tryz.func141 rfl rfl (Nat.le_of_ble_eq_true rfl) (by rw [d_parser_arrow]; exact h)

def an_parser_expr : An :=
  .s (.r [none]) (.s (.r [none, some (.c (.agg [.int .i64, .str, .int .i64, .int .i64])), none, none]) (.s (.s (.r [none, some tB]) (.c (.s (.r [none, none, some tP, none]) (.x)) (.x))) (.s (.r [none, some tP, none]) (.s (.s (.r [none, some (.c (.agg [.int .i64, .str, .int .i64, .int .i64])), none, none]) (.b (.s (.s (.r [none, some tB, none]) (.j [(19, .b .bool)] (.c (.x) (.s (.r [none, some tB, none]) (.c (.x) (.s (.r [none, some tB, none]) (.c (.x) (.s (.r [none, some tB, none]) (.c (.x) (.r [none, some tB, none])))))))))) (.c (.s (.s (.j [(51, .b .bool)] (.r [none, some tA, none, none, some tI, none, none, none, some tA, none, none, some tI, none, none, none, none, some tA, none, none, some tI, none, none])) (.c (.r [none, some tU]) (.x))) (.s (.r [none, none, none, none, some tP, some tSl, some tP, none]) (.x))) (.x))))) (.s (.r [none, none]) (.x))))))
def t_parser_expr (a0_p : Addr) : T :=
 .op (callS F_parser_now #[.pointer (some a0_p)]) (.c (.agg [.int .i64, .str, .int .i64, .int .i64])) fun r1 =>
 .op (callS F_parser_arrow #[.pointer (some a0_p)]) tB fun r2 =>
 .ite r2 (
 .op (callS F_parser_arrowed #[.pointer (some a0_p), .int .i64 r1.2.2.1]) tP fun r3 =>
 .ret #[.v (.pointer r3)]) (
 .op (callS F_parser_cond #[.pointer (some a0_p)]) tP fun r4 =>
 .op (callS F_parser_now #[.pointer (some a0_p)]) (.c (.agg [.int .i64, .str, .int .i64, .int .i64])) fun r5 =>
 .op (callS F_parser_take #[.pointer (some a0_p), .string k_eq]) tB fun r6 =>
 .join 0 [.b .bool] (
 .ite r6 (
 .out 0 [.bool true]) (
 .op (callS F_parser_take #[.pointer (some a0_p), .string k_plus_eq]) tB fun r7 =>
 .ite r7 (
 .out 0 [.bool true]) (
 .op (callS F_parser_take #[.pointer (some a0_p), .string k_minus_eq]) tB fun r8 =>
 .ite r8 (
 .out 0 [.bool true]) (
 .op (callS F_parser_take #[.pointer (some a0_p), .string k_star_eq]) tB fun r9 =>
 .ite r9 (
 .out 0 [.bool true]) (
 .op (callS F_parser_take #[.pointer (some a0_p), .string k_pct_eq]) tB fun r10 =>
 .out 0 [.bool r10]))))) fun x11 =>
 .ite x11.1 (
 .join 0 [.b .bool] (
 .op (nilS (.pointer r4)) tA fun r12 =>
 .op (ldS T_int (.pointer (some r12))) tI fun r13 =>
 .ite ((r13 : Int) != 17) (
 .op (nilS (.pointer r4)) tA fun r14 =>
 .op (ldS T_int (.pointer (some r14))) tI fun r15 =>
 .ite ((r15 : Int) != 29) (
 .op (nilS (.pointer r4)) tA fun r16 =>
 .op (ldS T_int (.pointer (some r16))) tI fun r17 =>
 .out 0 [.bool ((r17 : Int) != 30)]) (
 .out 0 [.bool false])) (
 .out 0 [.bool false])) fun x18 =>
 .ite x18.1 (
 .op (callS F_parser_fail #[.pointer (some a0_p)]) tU fun _ =>
 .op (callS F_parser_expr #[.pointer (some a0_p)]) tP fun r20 =>
 .op (sliceS T_SPsyntax_node 2 #[(0, .pointer r4), (1, .pointer r20)]) tSl fun r21 =>
 .op (callS F_syntax_made #[.int .i64 26, .string r5.2.1, .int .i64 0, .int .i64 r1.2.2.1, .slice r21.1 r21.2.1 r21.2.2]) tP fun r22 =>
 .ret #[.v (.pointer r22)]) (
 .op (callS F_parser_expr #[.pointer (some a0_p)]) tP fun r23 =>
 .op (sliceS T_SPsyntax_node 2 #[(0, .pointer r4), (1, .pointer r23)]) tSl fun r24 =>
 .op (callS F_syntax_made #[.int .i64 26, .string r5.2.1, .int .i64 0, .int .i64 r1.2.2.1, .slice r24.1 r24.2.1 r24.2.2]) tP fun r25 =>
 .ret #[.v (.pointer r25)])) (
 .ret #[.v (.pointer r4)]))
theorem d_parser_expr (a0_p : Addr) : fnT Tryz.prog Tryz.f87 an_parser_expr [.pointer (some a0_p)] = t_parser_expr a0_p := by kernel_rfl
theorem c_parser_expr {ε σ β : Type} {I : Ifc ε σ} {t : Ty} {s : Sp ε σ β} {Rel : β → t.den → Own → Fact} {Γ : List Fact} (a0_p : Addr) (h : Sim Tryz.prog I t Rel noLabel none (t_parser_expr a0_p) s [] Γ) : MeetsO Tryz.prog I (callS F_parser_expr #[.pointer (some a0_p)]) t s Rel Γ :=
  meets_of_sim (args := [.pointer (some a0_p)]) Tryz.func87 rfl rfl (Nat.le_of_ble_eq_true rfl) (by rw [d_parser_expr]; exact h)

def an_parser_arrowed : An :=
  .s (.r [none]) (.s (.r [none, some tP, none, some tP, none, none]) (.s (.s (.r [none, some (.c (.agg [.int .i64, .str, .int .i64, .int .i64])), none, none]) (.j [(5, .b .ptr), (6, .b .ptr)] (.c (.s (.r [none, some tS, none]) (.r [none, none, none, none, some tP, some tSl, some tP, some tSl, some tA, none, some tU])) (.s (.r [none, some tP, none]) (.s (.r [none, some tU]) (.s (.r [none, some tP, none]) (.r [none, some tU]))))))) (.s (.r [none, some tU]) (.s (.s (.r [none, some tB]) (.c (.s (.r [none, none, none, none, some tP, some tSl, some tP, none]) (.x)) (.x))) (.s (.r [none, none, none, none, some tP, some tSl, some tP, none]) (.x))))))
def t_parser_arrowed (a0_p : Addr) (a1_at : Int) : T :=
 .op (callS F_parser_empty #[.pointer (some a0_p)]) tP fun r1 =>
 .op (callS F_parser_empty #[.pointer (some a0_p)]) tP fun r2 =>
 .op (callS F_parser_now #[.pointer (some a0_p)]) (.c (.agg [.int .i64, .str, .int .i64, .int .i64])) fun r3 =>
 .join 0 [.b .ptr, .b .ptr] (
 .ite ((r3.1 : Int) == 1) (
 .op (callS F_parser_name #[.pointer (some a0_p)]) tS fun r4 =>
 .op (callS F_parser_none #[.pointer (some a0_p)]) tP fun r5 =>
 .op (sliceS T_SPsyntax_node 1 #[(0, .pointer r5)]) tSl fun r6 =>
 .op (callS F_syntax_made #[.int .i64 66, .string r4, .int .i64 0, .int .i64 a1_at, .slice r6.1 r6.2.1 r6.2.2]) tP fun r7 =>
 .op (sliceS T_SPsyntax_node 1 #[(0, .pointer r7)]) tSl fun r8 =>
 .op (nilS (.pointer r2)) tA fun r9 =>
 .op (stS T_SPsyntax_node (.pointer (some ⟨r9.block, r9.off + 5, none⟩)) (.slice r8.1 r8.2.1 r8.2.2)) tU fun _ =>
 .out 0 [.pointer r1, .pointer r2]) (
 .op (callS F_parser_vars #[.pointer (some a0_p)]) tP fun r11 =>
 .op (callS F_parser_must #[.pointer (some a0_p), .string k_lp]) tU fun _ =>
 .op (callS F_parser_params #[.pointer (some a0_p), .bool false]) tP fun r13 =>
 .op (callS F_parser_must #[.pointer (some a0_p), .string k_rp]) tU fun _ =>
 .out 0 [.pointer r11, .pointer r13])) fun x15 =>
 .op (callS F_parser_must #[.pointer (some a0_p), .string k_eq_gt]) tU fun _ =>
 .op (callS F_parser_is #[.pointer (some a0_p), .string k_lc]) tB fun r17 =>
 .ite r17 (
 .op (callS F_parser_block #[.pointer (some a0_p)]) tP fun r18 =>
 .op (sliceS T_SPsyntax_node 3 #[(0, .pointer x15.1), (1, .pointer x15.2.1), (2, .pointer r18)]) tSl fun r19 =>
 .op (callS F_syntax_made #[.int .i64 22, .string kE, .int .i64 0, .int .i64 a1_at, .slice r19.1 r19.2.1 r19.2.2]) tP fun r20 =>
 .ret #[.v (.pointer r20)]) (
 .op (callS F_parser_expr #[.pointer (some a0_p)]) tP fun r21 =>
 .op (sliceS T_SPsyntax_node 3 #[(0, .pointer x15.1), (1, .pointer x15.2.1), (2, .pointer r21)]) tSl fun r22 =>
 .op (callS F_syntax_made #[.int .i64 22, .string kE, .int .i64 0, .int .i64 a1_at, .slice r22.1 r22.2.1 r22.2.2]) tP fun r23 =>
 .ret #[.v (.pointer r23)])
theorem d_parser_arrowed (a0_p : Addr) (a1_at : Int) : fnT Tryz.prog Tryz.f142 an_parser_arrowed [.pointer (some a0_p), .int .i64 a1_at] = t_parser_arrowed a0_p a1_at := by kernel_rfl
theorem c_parser_arrowed {ε σ β : Type} {I : Ifc ε σ} {t : Ty} {s : Sp ε σ β} {Rel : β → t.den → Own → Fact} {Γ : List Fact} (a0_p : Addr) (a1_at : Int) (h : Sim Tryz.prog I t Rel noLabel none (t_parser_arrowed a0_p a1_at) s [] Γ) : MeetsO Tryz.prog I (callS F_parser_arrowed #[.pointer (some a0_p), .int .i64 a1_at]) t s Rel Γ :=
  meets_of_sim (args := [.pointer (some a0_p), .int .i64 a1_at]) Tryz.func142 rfl rfl (Nat.le_of_ble_eq_true rfl) (by rw [d_parser_arrowed]; exact h)

def an_parser_cond : An :=
  .s (.r [none]) (.s (.r [none, some (.c (.agg [.int .i64, .str, .int .i64, .int .i64])), none, none]) (.s (.r [none, some tP, none]) (.s (.s (.r [none, some tB, none]) (.c (.s (.r [none, none]) (.x)) (.x))) (.s (.r [none, some tP, none]) (.s (.r [none, some tU]) (.s (.r [none, none, none, none, some tP, some tSl, some tP, none]) (.x)))))))
def t_parser_cond (a0_p : Addr) : T :=
 .op (callS F_parser_now #[.pointer (some a0_p)]) (.c (.agg [.int .i64, .str, .int .i64, .int .i64])) fun r1 =>
 .op (callS F_parser_level #[.pointer (some a0_p), .int .i64 0]) tP fun r2 =>
 .op (callS F_parser_take #[.pointer (some a0_p), .string k_quest]) tB fun r3 =>
 .ite (!r3) (
 .ret #[.v (.pointer r2)]) (
 .op (callS F_parser_expr #[.pointer (some a0_p)]) tP fun r4 =>
 .op (callS F_parser_must #[.pointer (some a0_p), .string k_colon]) tU fun _ =>
 .op (callS F_parser_expr #[.pointer (some a0_p)]) tP fun r6 =>
 .op (sliceS T_SPsyntax_node 3 #[(0, .pointer r2), (1, .pointer r4), (2, .pointer r6)]) tSl fun r7 =>
 .op (callS F_syntax_made #[.int .i64 25, .string kE, .int .i64 0, .int .i64 r1.2.2.1, .slice r7.1 r7.2.1 r7.2.2]) tP fun r8 =>
 .ret #[.v (.pointer r8)])
theorem d_parser_cond (a0_p : Addr) : fnT Tryz.prog Tryz.f143 an_parser_cond [.pointer (some a0_p)] = t_parser_cond a0_p := by kernel_rfl
theorem c_parser_cond {ε σ β : Type} {I : Ifc ε σ} {t : Ty} {s : Sp ε σ β} {Rel : β → t.den → Own → Fact} {Γ : List Fact} (a0_p : Addr) (h : Sim Tryz.prog I t Rel noLabel none (t_parser_cond a0_p) s [] Γ) : MeetsO Tryz.prog I (callS F_parser_cond #[.pointer (some a0_p)]) t s Rel Γ :=
  meets_of_sim (args := [.pointer (some a0_p)]) Tryz.func143 rfl rfl (Nat.le_of_ble_eq_true rfl) (by rw [d_parser_cond]; exact h)

def an_syntax_signs : An :=
  .s (.r [none]) (.s (.r [some tSl, some tSl, some tSl, some tSl, some tSl, some tSl, some tSl, some tSl, some tSl, some tSl, some tSl, none]) (.s (.s (.r [none, none, none, none]) (.c (.s (.r [none]) (.x)) (.x))) (.s (.r [none, none, some tA, some tSl, none]) (.x))))
def t_syntax_signs (a0_level : Int) : T :=
 .op (sliceS T_Sstring 1 #[(0, .string k_bar_bar)]) tSl fun r1 =>
 .op (sliceS T_Sstring 1 #[(0, .string k_amp_amp)]) tSl fun r2 =>
 .op (sliceS T_Sstring 1 #[(0, .string k_bar)]) tSl fun r3 =>
 .op (sliceS T_Sstring 1 #[(0, .string k_caret)]) tSl fun r4 =>
 .op (sliceS T_Sstring 1 #[(0, .string k_amp)]) tSl fun r5 =>
 .op (sliceS T_Sstring 2 #[(0, .string k_eq_eq_eq), (1, .string k_bang_eq_eq)]) tSl fun r6 =>
 .op (sliceS T_Sstring 6 #[(0, .string k_lt), (1, .string k_lt_eq), (2, .string k_gt), (3, .string k_gt_eq), (4, .string kin), (5, .string kas)]) tSl fun r7 =>
 .op (sliceS T_Sstring 3 #[(0, .string k_lt_lt), (1, .string k_gt_gt), (2, .string k_gt_gt_gt)]) tSl fun r8 =>
 .op (sliceS T_Sstring 2 #[(0, .string k_plus), (1, .string k_minus)]) tSl fun r9 =>
 .op (sliceS T_Sstring 2 #[(0, .string k_star), (1, .string k_pct)]) tSl fun r10 =>
 .op (sliceS T_SSstring 10 #[(0, .slice r1.1 r1.2.1 r1.2.2), (1, .slice r2.1 r2.2.1 r2.2.2), (2, .slice r3.1 r3.2.1 r3.2.2), (3, .slice r4.1 r4.2.1 r4.2.2), (4, .slice r5.1 r5.2.1 r5.2.2), (5, .slice r6.1 r6.2.1 r6.2.2), (6, .slice r7.1 r7.2.1 r7.2.2), (7, .slice r8.1 r8.2.1 r8.2.2), (8, .slice r9.1 r9.2.1 r9.2.2), (9, .slice r10.1 r10.2.1 r10.2.2)]) tSl fun r11 =>
 .ite ((a0_level : Int) == (r11.2.1 : Int)) (
 .ret #[.v (.slice none 0 0)]) (
 .op (idxAS T_SSstring (.slice r11.1 r11.2.1 r11.2.2) (.int .i64 a0_level)) tA fun r12 =>
 .op (ldS T_Sstring (.pointer (some r12))) tSl fun r13 =>
 .ret #[.v (.slice r13.1 r13.2.1 r13.2.2)])
theorem d_syntax_signs (a0_level : Int) : fnT Tryz.prog Tryz.f223 an_syntax_signs [.int .i64 a0_level] = t_syntax_signs a0_level := by kernel_rfl
theorem c_syntax_signs {ε σ β : Type} {I : Ifc ε σ} {t : Ty} {s : Sp ε σ β} {Rel : β → t.den → Own → Fact} {Γ : List Fact} (a0_level : Int) (h : Sim Tryz.prog I t Rel noLabel none (t_syntax_signs a0_level) s [] Γ) : MeetsO Tryz.prog I (callS F_syntax_signs #[.int .i64 a0_level]) t s Rel Γ :=
  meets_of_sim (args := [.int .i64 a0_level]) Tryz.func223 rfl rfl (Nat.le_of_ble_eq_true rfl) (by rw [d_syntax_signs]; exact h)

def an_parser_level : An :=
  .s (.r [none]) (.sc 0 [(5, .b .slice), (6, .b (.int .i64)), (7, .b .ptr)] (.s (.r [none, some tSl, none]) (.s (.s (.r [none, some tB]) (.c (.s (.r [none, some tP, none]) (.x)) (.x))) (.s (.r [none, some (.c (.agg [.int .i64, .str, .int .i64, .int .i64])), none, none]) (.s (.r [none, none, none, some tP, none]) (.s (.x) (.s (.s (.r [none, none, none]) (.b (.l [(7, .b .ptr), (25, .b (.int .i64))] (.s (.r [none]) (.s (.c (.x) (.x)) (.s (.b (.s (.r [some tA, some tS, none]) (.s (.b (.s (.r [none, none, some tB, none, none]) (.c (.x) (.s (.r [none, none, none]) (.c (.r [none, none, none, some tP, some tSl, some tP, none]) (.r [none, none, none, none, none, none, some tP, some tSl, some tP, none])))))) (.x)))) (.r [none, none]))))))) (.s (.r [none, none]) (.x)))))))) (.s (.r [none, some tSl, none]) (.s (.s (.r [none, some tB]) (.c (.s (.r [none, some tP, none]) (.x)) (.x))) (.s (.r [none, some (.c (.agg [.int .i64, .str, .int .i64, .int .i64])), none, none]) (.s (.r [none, none, none, some tP, none]) (.s (.x) (.s (.s (.r [none, none, none]) (.b (.l [(7, .b .ptr), (25, .b (.int .i64))] (.s (.r [none]) (.s (.c (.x) (.x)) (.s (.b (.s (.r [some tA, some tS, none]) (.s (.b (.s (.r [none, none, some tB, none, none]) (.c (.x) (.s (.r [none, none, none]) (.c (.r [none, none, none, some tP, some tSl, some tP, none]) (.r [none, none, none, none, none, none, some tP, some tSl, some tP, none])))))) (.x)))) (.r [none, none]))))))) (.s (.r [none, none]) (.x)))))))))
def t_parser_level (a0_p : Addr) (a1_n : Int) : T :=
 .join 0 [.b .slice, .b (.int .i64), .b .ptr] (
 .op (callS F_syntax_signs #[.int .i64 a1_n]) tSl fun r1 =>
 .op (binS .eql T_Sstring (.slice r1.1 r1.2.1 r1.2.2) (.slice none 0 0)) tB fun r2 =>
 .ite r2 (
 .op (callS F_parser_unary #[.pointer (some a0_p)]) tP fun r3 =>
 .ret #[.v (.pointer r3)]) (
 .op (callS F_parser_now #[.pointer (some a0_p)]) (.c (.agg [.int .i64, .str, .int .i64, .int .i64])) fun r4 =>
 .op (callS F_parser_level #[.pointer (some a0_p), .int .i64 (IntKind.i64.wrap (a1_n + 1))]) tP fun r5 =>
 .loop 1 [.b .ptr, .b (.int .i64)] [.pointer r5, .int .i64 0] fun x6 =>
 .ite (decide ((x6.2.1 : Int) < (r1.2.1 : Int))) (
 .op (idxAS T_Sstring (.slice r1.1 r1.2.1 r1.2.2) (.int .i64 x6.2.1)) tA fun r7 =>
 .op (ldS T_string (.pointer (some r7))) tS fun r8 =>
 .op (callS F_parser_take #[.pointer (some a0_p), .string r8]) tB fun r9 =>
 .ite (!r9) (
 .out 1 [.pointer x6.1, .int .i64 (IntKind.i64.wrap (x6.2.1 + 1))]) (
 .ite (r8.toList == kas.toList) (
 .op (callS F_parser_typed #[.pointer (some a0_p)]) tP fun r10 =>
 .op (sliceS T_SPsyntax_node 2 #[(0, .pointer x6.1), (1, .pointer r10)]) tSl fun r11 =>
 .op (callS F_syntax_made #[.int .i64 33, .string kE, .int .i64 0, .int .i64 r4.2.2.1, .slice r11.1 r11.2.1 r11.2.2]) tP fun r12 =>
 .out 0 [.slice r1.1 r1.2.1 r1.2.2, .int .i64 r4.2.2.1, .pointer r12]) (
 .op (callS F_parser_level #[.pointer (some a0_p), .int .i64 (IntKind.i64.wrap (a1_n + 1))]) tP fun r13 =>
 .op (sliceS T_SPsyntax_node 2 #[(0, .pointer x6.1), (1, .pointer r13)]) tSl fun r14 =>
 .op (callS F_syntax_made #[.int .i64 24, .string r8, .int .i64 0, .int .i64 r4.2.2.1, .slice r14.1 r14.2.1 r14.2.2]) tP fun r15 =>
 .out 0 [.slice r1.1 r1.2.1 r1.2.2, .int .i64 r4.2.2.1, .pointer r15]))) (
 .ret #[.v (.pointer x6.1)]))) fun x16 =>
 .loop 0 [.b .slice, .b (.int .i64), .b .ptr] [.slice x16.1.1 x16.1.2.1 x16.1.2.2, .int .i64 x16.2.1, .pointer x16.2.2.1] fun y17 =>
 .loop 1 [.b .ptr, .b (.int .i64)] [.pointer y17.2.2.1, .int .i64 0] fun x18 =>
 .ite (decide ((x18.2.1 : Int) < (y17.1.2.1 : Int))) (
 .op (idxAS T_Sstring (.slice y17.1.1 y17.1.2.1 y17.1.2.2) (.int .i64 x18.2.1)) tA fun r19 =>
 .op (ldS T_string (.pointer (some r19))) tS fun r20 =>
 .op (callS F_parser_take #[.pointer (some a0_p), .string r20]) tB fun r21 =>
 .ite (!r21) (
 .out 1 [.pointer x18.1, .int .i64 (IntKind.i64.wrap (x18.2.1 + 1))]) (
 .ite (r20.toList == kas.toList) (
 .op (callS F_parser_typed #[.pointer (some a0_p)]) tP fun r22 =>
 .op (sliceS T_SPsyntax_node 2 #[(0, .pointer x18.1), (1, .pointer r22)]) tSl fun r23 =>
 .op (callS F_syntax_made #[.int .i64 33, .string kE, .int .i64 0, .int .i64 y17.2.1, .slice r23.1 r23.2.1 r23.2.2]) tP fun r24 =>
 .out 0 [.slice y17.1.1 y17.1.2.1 y17.1.2.2, .int .i64 y17.2.1, .pointer r24]) (
 .op (callS F_parser_level #[.pointer (some a0_p), .int .i64 (IntKind.i64.wrap (a1_n + 1))]) tP fun r25 =>
 .op (sliceS T_SPsyntax_node 2 #[(0, .pointer x18.1), (1, .pointer r25)]) tSl fun r26 =>
 .op (callS F_syntax_made #[.int .i64 24, .string r20, .int .i64 0, .int .i64 y17.2.1, .slice r26.1 r26.2.1 r26.2.2]) tP fun r27 =>
 .out 0 [.slice y17.1.1 y17.1.2.1 y17.1.2.2, .int .i64 y17.2.1, .pointer r27]))) (
 .ret #[.v (.pointer x18.1)])
theorem d_parser_level (a0_p : Addr) (a1_n : Int) : fnT Tryz.prog Tryz.f193 an_parser_level [.pointer (some a0_p), .int .i64 a1_n] = t_parser_level a0_p a1_n := by kernel_rfl
theorem c_parser_level {ε σ β : Type} {I : Ifc ε σ} {t : Ty} {s : Sp ε σ β} {Rel : β → t.den → Own → Fact} {Γ : List Fact} (a0_p : Addr) (a1_n : Int) (h : Sim Tryz.prog I t Rel noLabel none (t_parser_level a0_p a1_n) s [] Γ) : MeetsO Tryz.prog I (callS F_parser_level #[.pointer (some a0_p), .int .i64 a1_n]) t s Rel Γ :=
  meets_of_sim (args := [.pointer (some a0_p), .int .i64 a1_n]) Tryz.func193 rfl rfl (Nat.le_of_ble_eq_true rfl) (by rw [d_parser_level]; exact h)

def an_parser_unary : An :=
  .s (.r [none]) (.s (.r [none, some (.c (.agg [.int .i64, .str, .int .i64, .int .i64])), some tA, some tU]) (.s (.b (.s (.s (.r [none, some tB, none]) (.j [(6, .b .bool)] (.c (.x) (.s (.r [none, some tB, none]) (.c (.x) (.s (.r [none, some tB, none]) (.c (.x) (.r [none, some tB, none])))))))) (.c (.s (.d (.q 0 none (.q 1 (some tS) (.q 2 none (.q 3 (some tI) (.q 4 none (.l 5 (some tP) (.l 6 (some tSl) (.l 7 (some tP) (.q 8 none (.e))))))))))) (.x)) (.x)))) (.s (.r [none, some tP, none]) (.x))))
def t_parser_unary (a0_p : Addr) : T :=
 .op (callS F_parser_now #[.pointer (some a0_p)]) (.c (.agg [.int .i64, .str, .int .i64, .int .i64])) fun r1 =>
 .op (allocS T_api_Token) tA fun r2 =>
 .op (stS T_api_Token (.pointer (some r2)) (.agg #[.int .i64 r1.1, .string r1.2.1, .int .i64 r1.2.2.1, .int .i64 r1.2.2.2.1])) tU fun _ =>
 .op (callS F_parser_take #[.pointer (some a0_p), .string k_bang]) tB fun r4 =>
 .join 0 [.b .bool] (
 .ite r4 (
 .out 0 [.bool true]) (
 .op (callS F_parser_take #[.pointer (some a0_p), .string k_minus]) tB fun r5 =>
 .ite r5 (
 .out 0 [.bool true]) (
 .op (callS F_parser_take #[.pointer (some a0_p), .string k_tilde]) tB fun r6 =>
 .ite r6 (
 .out 0 [.bool true]) (
 .op (callS F_parser_take #[.pointer (some a0_p), .string ktypeof]) tB fun r7 =>
 .out 0 [.bool r7])))) fun x8 =>
 .ite x8.1 (
 .draw <|
 .opq (ldS T_string (.pointer (some ⟨r2.block, r2.off + 1, none⟩))) tS fun r9 =>
 .opq (ldS T_int (.pointer (some ⟨r2.block, r2.off + 2, none⟩))) tI fun r10 =>
 .opl (callS F_parser_unary #[.pointer (some a0_p)]) tP fun r11 =>
 .opl (sliceS T_SPsyntax_node 1 #[(0, .pointer r11)]) tSl fun r12 =>
 .opl (callS F_syntax_made #[.int .i64 23, .string r9, .int .i64 0, .int .i64 r10, .slice r12.1 r12.2.1 r12.2.2]) tP fun r13 =>
 .ret #[.v (.pointer r13)]) (
 .op (callS F_parser_postfix #[.pointer (some a0_p)]) tP fun r14 =>
 .ret #[.v (.pointer r14)])
theorem d_parser_unary (a0_p : Addr) : fnT Tryz.prog Tryz.f224 an_parser_unary [.pointer (some a0_p)] = t_parser_unary a0_p := by kernel_rfl
theorem c_parser_unary {ε σ β : Type} {I : Ifc ε σ} {t : Ty} {s : Sp ε σ β} {Rel : β → t.den → Own → Fact} {Γ : List Fact} (a0_p : Addr) (h : Sim Tryz.prog I t Rel noLabel none (t_parser_unary a0_p) s [] Γ) : MeetsO Tryz.prog I (callS F_parser_unary #[.pointer (some a0_p)]) t s Rel Γ :=
  meets_of_sim (args := [.pointer (some a0_p)]) Tryz.func224 rfl rfl (Nat.le_of_ble_eq_true rfl) (by rw [d_parser_unary]; exact h)

def an_parser_given : An :=
  .s (.r [none]) (.s (.r [none, some tU]) (.s (.r [none, some tP, none]) (.s (.s (.r [none, some tB, none]) (.c (.r [none, none, none, some tP, none]) (.x))) (.s (.r [none, some tU]) (.s (.r [none, none]) (.x))))))
def t_parser_given (a0_p : Addr) : T :=
 .op (callS F_parser_must #[.pointer (some a0_p), .string k_lp]) tU fun _ =>
 .op (callS F_parser_empty #[.pointer (some a0_p)]) tP fun r2 =>
 .op (callS F_parser_is #[.pointer (some a0_p), .string k_rp]) tB fun r3 =>
 .ite (!r3) (
 .op (callS F_parser_list #[.pointer (some a0_p), .func (.func F_parser_expr) #[.pointer (some a0_p)] #[]]) tP fun r4 =>
 .op (callS F_parser_must #[.pointer (some a0_p), .string k_rp]) tU fun _ =>
 .ret #[.v (.pointer r4)]) (
 .op (callS F_parser_must #[.pointer (some a0_p), .string k_rp]) tU fun _ =>
 .ret #[.v (.pointer r2)])
theorem d_parser_given (a0_p : Addr) : fnT Tryz.prog Tryz.f259 an_parser_given [.pointer (some a0_p)] = t_parser_given a0_p := by kernel_rfl
theorem c_parser_given {ε σ β : Type} {I : Ifc ε σ} {t : Ty} {s : Sp ε σ β} {Rel : β → t.den → Own → Fact} {Γ : List Fact} (a0_p : Addr) (h : Sim Tryz.prog I t Rel noLabel none (t_parser_given a0_p) s [] Γ) : MeetsO Tryz.prog I (callS F_parser_given #[.pointer (some a0_p)]) t s Rel Γ :=
  meets_of_sim (args := [.pointer (some a0_p)]) Tryz.func259 rfl rfl (Nat.le_of_ble_eq_true rfl) (by rw [d_parser_given]; exact h)

def an_parser_postfix : An :=
  .s (.r [none]) (.b (.s (.r [none, some (.c (.agg [.int .i64, .str, .int .i64, .int .i64])), none, none]) (.s (.r [none, some tP, none]) (.s (.x) (.s (.b (.l [(4, .b .ptr)] (.b (.b (.s (.r [none, some tB, none]) (.c (.r [none, some tS, none, none, some tSl, some tP, none]) (.s (.r [none, some tB, none]) (.c (.s (.r [none, some tP, none]) (.s (.r [none, some tU]) (.r [none, none, none, some tSl, some tP, none]))) (.s (.s (.r [none, some tB, none]) (.j [(33, .b .bool)] (.c (.x) (.r [none, some tB, none, none, some tB, none, none])))) (.c (.s (.r [none, some tP, none]) (.r [none, none, none, none, some tP, some tSl, some tP, none])) (.s (.r [none, some tB, none]) (.c (.r [none, none, some tSl, some tP, none]) (.x))))))))))))) (.s (.r [none, none]) (.x)))))))
def t_parser_postfix (a0_p : Addr) : T :=
 .op (callS F_parser_now #[.pointer (some a0_p)]) (.c (.agg [.int .i64, .str, .int .i64, .int .i64])) fun r1 =>
 .op (callS F_parser_primary #[.pointer (some a0_p)]) tP fun r2 =>
 .loop 0 [.b .ptr] [.pointer r2] fun x3 =>
 .op (callS F_parser_take #[.pointer (some a0_p), .string k_dot]) tB fun r4 =>
 .ite r4 (
 .op (callS F_parser_name #[.pointer (some a0_p)]) tS fun r5 =>
 .op (sliceS T_SPsyntax_node 1 #[(0, .pointer x3.1)]) tSl fun r6 =>
 .op (callS F_syntax_made #[.int .i64 29, .string r5, .int .i64 0, .int .i64 r1.2.2.1, .slice r6.1 r6.2.1 r6.2.2]) tP fun r7 =>
 .out 0 [.pointer r7]) (
 .op (callS F_parser_take #[.pointer (some a0_p), .string k_lb]) tB fun r8 =>
 .ite r8 (
 .op (callS F_parser_expr #[.pointer (some a0_p)]) tP fun r9 =>
 .op (callS F_parser_must #[.pointer (some a0_p), .string k_rb]) tU fun _ =>
 .op (sliceS T_SPsyntax_node 2 #[(0, .pointer x3.1), (1, .pointer r9)]) tSl fun r11 =>
 .op (callS F_syntax_made #[.int .i64 30, .string kE, .int .i64 0, .int .i64 r1.2.2.1, .slice r11.1 r11.2.1 r11.2.2]) tP fun r12 =>
 .out 0 [.pointer r12]) (
 .op (callS F_parser_is #[.pointer (some a0_p), .string k_lp]) tB fun r13 =>
 .join 1 [.b .bool] (
 .ite r13 (
 .out 1 [.bool true]) (
 .op (callS F_parser_is #[.pointer (some a0_p), .string k_lt]) tB fun r14 =>
 .ite r14 (
 .op (callS F_parser_calls #[.pointer (some a0_p)]) tB fun r15 =>
 .out 1 [.bool r15]) (
 .out 1 [.bool false]))) fun x16 =>
 .ite x16.1 (
 .op (callS F_parser_args #[.pointer (some a0_p)]) tP fun r17 =>
 .op (callS F_parser_given #[.pointer (some a0_p)]) tP fun r18 =>
 .op (sliceS T_SPsyntax_node 3 #[(0, .pointer x3.1), (1, .pointer r17), (2, .pointer r18)]) tSl fun r19 =>
 .op (callS F_syntax_made #[.int .i64 27, .string kE, .int .i64 0, .int .i64 r1.2.2.1, .slice r19.1 r19.2.1 r19.2.2]) tP fun r20 =>
 .out 0 [.pointer r20]) (
 .op (callS F_parser_take #[.pointer (some a0_p), .string k_bang]) tB fun r21 =>
 .ite r21 (
 .op (sliceS T_SPsyntax_node 1 #[(0, .pointer x3.1)]) tSl fun r22 =>
 .op (callS F_syntax_made #[.int .i64 34, .string kE, .int .i64 0, .int .i64 r1.2.2.1, .slice r22.1 r22.2.1 r22.2.2]) tP fun r23 =>
 .out 0 [.pointer r23]) (
 .ret #[.v (.pointer x3.1)]))))
theorem d_parser_postfix (a0_p : Addr) : fnT Tryz.prog Tryz.f244 an_parser_postfix [.pointer (some a0_p)] = t_parser_postfix a0_p := by kernel_rfl
theorem c_parser_postfix {ε σ β : Type} {I : Ifc ε σ} {t : Ty} {s : Sp ε σ β} {Rel : β → t.den → Own → Fact} {Γ : List Fact} (a0_p : Addr) (h : Sim Tryz.prog I t Rel noLabel none (t_parser_postfix a0_p) s [] Γ) : MeetsO Tryz.prog I (callS F_parser_postfix #[.pointer (some a0_p)]) t s Rel Γ :=
  meets_of_sim (args := [.pointer (some a0_p)]) Tryz.func244 rfl rfl (Nat.le_of_ble_eq_true rfl) (by rw [d_parser_postfix]; exact h)

def an_syntax_words : An :=
  .s (.r [none]) (.s (.s (.r [none]) (.b (.s (.r [none, none]) (.c (.s (.r [none]) (.x)) (.s (.r [none, none]) (.c (.s (.r [none]) (.x)) (.s (.r [none, none]) (.c (.s (.r [none]) (.x)) (.s (.r [none, none]) (.c (.s (.r [none]) (.x)) (.s (.r [none, none]) (.c (.s (.r [none]) (.x)) (.x))))))))))))) (.s (.r [none]) (.x)))
def t_syntax_words (a0_s : ByteArray) : T :=
 .ite (a0_s.toList == ktrue.toList) (
 .ret #[.v (.int .i64 13)]) (
 .ite (a0_s.toList == kfalse.toList) (
 .ret #[.v (.int .i64 14)]) (
 .ite (a0_s.toList == knull.toList) (
 .ret #[.v (.int .i64 15)]) (
 .ite (a0_s.toList == kundefined.toList) (
 .ret #[.v (.int .i64 16)]) (
 .ite (a0_s.toList == kthis.toList) (
 .ret #[.v (.int .i64 18)]) (
 .ret #[.v (.int .i64 0)])))))
theorem d_syntax_words (a0_s : ByteArray) : fnT Tryz.prog Tryz.f272 an_syntax_words [.string a0_s] = t_syntax_words a0_s := by kernel_rfl
theorem c_syntax_words {ε σ β : Type} {I : Ifc ε σ} {t : Ty} {s : Sp ε σ β} {Rel : β → t.den → Own → Fact} {Γ : List Fact} (a0_s : ByteArray) (h : Sim Tryz.prog I t Rel noLabel none (t_syntax_words a0_s) s [] Γ) : MeetsO Tryz.prog I (callS F_syntax_words #[.string a0_s]) t s Rel Γ :=
  meets_of_sim (args := [.string a0_s]) Tryz.func272 rfl rfl (Nat.le_of_ble_eq_true rfl) (by rw [d_syntax_words]; exact h)

def an_parser_primary : An :=
  .s (.r [none]) (.s (.r [none, some (.c (.agg [.int .i64, .str, .int .i64, .int .i64])), some tA, some tU]) (.s (.s (.r [none, some tI]) (.b (.s (.r [none, none]) (.c (.s (.r [none, some (.c (.agg [.int .i64, .str, .int .i64, .int .i64]))]) (.s (.d (.q 0 none (.q 1 (some tS) (.q 3 none (.q 4 (some tI) (.l 2 (some tI) (.l 5 (some tP) (.q 6 none (.e))))))))) (.x))) (.s (.r [none, none]) (.c (.s (.r [none, some (.c (.agg [.int .i64, .str, .int .i64, .int .i64]))]) (.s (.r [none, some tS, none, some tI, some tP, none]) (.x))) (.s (.s (.r [none, none]) (.j [(29, .b .bool)] (.c (.x) (.r [none, none])))) (.c (.s (.r [none, some tP, none]) (.x)) (.s (.r [none, none]) (.c (.s (.r [none, some (.c (.agg [.int .i64, .str, .int .i64, .int .i64]))]) (.s (.r [none, some tS, none, some tI, some tP, none]) (.x))) (.s (.r [none, none]) (.c (.s (.r [none, some (.c (.agg [.int .i64, .str, .int .i64, .int .i64])), some tP, none]) (.x)) (.x))))))))))))) (.s (.b (.s (.r [none, some tB, none]) (.c (.s (.r [none, some tP, none]) (.s (.r [none, some tU]) (.s (.r [none, none]) (.x)))) (.s (.r [none, some tB, none]) (.c (.s (.r [none, some tI, some tP, none]) (.s (.s (.r [none, some tB, none]) (.c (.r [none, none, none, none, some tP, some tA, none, some tSl, some tA, none, some tU]) (.x))) (.s (.r [none, some tU]) (.s (.r [none, none]) (.x))))) (.x)))))) (.s (.r [none, some tP, none]) (.x)))))
def t_parser_primary (a0_a0 : Addr) : T :=
 .op (callS F_parser_now #[.pointer (some a0_a0)]) (.c (.agg [.int .i64, .str, .int .i64, .int .i64])) fun r1 =>
 .op (allocS T_api_Token) tA fun r2 =>
 .op (stS T_api_Token (.pointer (some r2)) (.agg #[.int .i64 r1.1, .string r1.2.1, .int .i64 r1.2.2.1, .int .i64 r1.2.2.2.1])) tU fun _ =>
 .op (ldS T_int (.pointer (some r2))) tI fun r4 =>
 .ite ((r4 : Int) == 3) (
 .op (callS F_parser_next #[.pointer (some a0_a0)]) (.c (.agg [.int .i64, .str, .int .i64, .int .i64])) fun r5 =>
 .draw <|
 .opq (ldS T_string (.pointer (some ⟨r2.block, r2.off + 1, none⟩))) tS fun r6 =>
 .opq (ldS T_int (.pointer (some ⟨r2.block, r2.off + 2, none⟩))) tI fun r7 =>
 .opl (callS F_syntax_number #[.string r6]) tI fun r8 =>
 .opl (callS F_syntax_made #[.int .i64 10, .string kE, .int .i64 r8, .int .i64 r7, .slice none 0 0]) tP fun r9 =>
 .ret #[.v (.pointer r9)]) (
 .ite ((r4 : Int) == 4) (
 .op (callS F_parser_next #[.pointer (some a0_a0)]) (.c (.agg [.int .i64, .str, .int .i64, .int .i64])) fun r10 =>
 .op (ldS T_string (.pointer (some ⟨r2.block, r2.off + 1, none⟩))) tS fun r11 =>
 .op (ldS T_int (.pointer (some ⟨r2.block, r2.off + 2, none⟩))) tI fun r12 =>
 .op (callS F_syntax_made #[.int .i64 11, .string r11, .int .i64 0, .int .i64 r12, .slice none 0 0]) tP fun r13 =>
 .ret #[.v (.pointer r13)]) (
 .join 0 [.b .bool] (
 .ite ((r4 : Int) == 5) (
 .out 0 [.bool true]) (
 .out 0 [.bool ((r4 : Int) == 6)])) fun x14 =>
 .ite x14.1 (
 .op (callS F_parser_template #[.pointer (some a0_a0)]) tP fun r15 =>
 .ret #[.v (.pointer r15)]) (
 .ite ((r4 : Int) == 1) (
 .op (callS F_parser_next #[.pointer (some a0_a0)]) (.c (.agg [.int .i64, .str, .int .i64, .int .i64])) fun r16 =>
 .op (ldS T_string (.pointer (some ⟨r2.block, r2.off + 1, none⟩))) tS fun r17 =>
 .op (ldS T_int (.pointer (some ⟨r2.block, r2.off + 2, none⟩))) tI fun r18 =>
 .op (callS F_syntax_made #[.int .i64 17, .string r17, .int .i64 0, .int .i64 r18, .slice none 0 0]) tP fun r19 =>
 .ret #[.v (.pointer r19)]) (
 .ite ((r4 : Int) == 2) (
 .op (ldS T_api_Token (.pointer (some r2))) (.c (.agg [.int .i64, .str, .int .i64, .int .i64])) fun r20 =>
 .op (callS F_parser_worded #[.pointer (some a0_a0), .agg #[.int .i64 r20.1, .string r20.2.1, .int .i64 r20.2.2.1, .int .i64 r20.2.2.2.1]]) tP fun r21 =>
 .ret #[.v (.pointer r21)]) (
 .op (callS F_parser_take #[.pointer (some a0_a0), .string k_lp]) tB fun r22 =>
 .ite r22 (
 .op (callS F_parser_expr #[.pointer (some a0_a0)]) tP fun r23 =>
 .op (callS F_parser_must #[.pointer (some a0_a0), .string k_rp]) tU fun _ =>
 .ret #[.v (.pointer r23)]) (
 .op (callS F_parser_take #[.pointer (some a0_a0), .string k_lb]) tB fun r25 =>
 .ite r25 (
 .op (ldS T_int (.pointer (some ⟨r2.block, r2.off + 2, none⟩))) tI fun r26 =>
 .op (callS F_syntax_made #[.int .i64 19, .string kE, .int .i64 0, .int .i64 r26, .slice none 0 0]) tP fun r27 =>
 .op (callS F_parser_is #[.pointer (some a0_a0), .string k_rb]) tB fun r28 =>
 .ite (!r28) (
 .op (callS F_parser_list #[.pointer (some a0_a0), .func (.func F_parser_expr) #[.pointer (some a0_a0)] #[]]) tP fun r29 =>
 .op (nilS (.pointer r29)) tA fun r30 =>
 .op (ldS T_SPsyntax_node (.pointer (some ⟨r30.block, r30.off + 5, none⟩))) tSl fun r31 =>
 .op (nilS (.pointer r27)) tA fun r32 =>
 .op (stS T_SPsyntax_node (.pointer (some ⟨r32.block, r32.off + 5, none⟩)) (.slice r31.1 r31.2.1 r31.2.2)) tU fun _ =>
 .op (callS F_parser_must #[.pointer (some a0_a0), .string k_rb]) tU fun _ =>
 .ret #[.v (.pointer r27)]) (
 .op (callS F_parser_must #[.pointer (some a0_a0), .string k_rb]) tU fun _ =>
 .ret #[.v (.pointer r27)])) (
 .op (callS F_parser_object #[.pointer (some a0_a0)]) tP fun r36 =>
 .ret #[.v (.pointer r36)])))))))
theorem d_parser_primary (a0_a0 : Addr) : fnT Tryz.prog Tryz.f257 an_parser_primary [.pointer (some a0_a0)] = t_parser_primary a0_a0 := by kernel_rfl
theorem c_parser_primary {ε σ β : Type} {I : Ifc ε σ} {t : Ty} {s : Sp ε σ β} {Rel : β → t.den → Own → Fact} {Γ : List Fact} (a0_a0 : Addr) (h : Sim Tryz.prog I t Rel noLabel none (t_parser_primary a0_a0) s [] Γ) : MeetsO Tryz.prog I (callS F_parser_primary #[.pointer (some a0_a0)]) t s Rel Γ :=
  meets_of_sim (args := [.pointer (some a0_a0)]) Tryz.func257 rfl rfl (Nat.le_of_ble_eq_true rfl) (by rw [d_parser_primary]; exact h)

def an_parser_worded : An :=
  .s (.r [some tA, none]) (.s (.j [] (.b (.s (.r [none, some tS, some tI, none, none]) (.c (.s (.r [none, some (.c (.agg [.int .i64, .str, .int .i64, .int .i64]))]) (.s (.d (.q 0 none (.q 1 (some tS) (.q 3 none (.q 4 (some tI) (.l 2 (some tI) (.l 5 (some tP) (.q 6 none (.e))))))))) (.x))) (.s (.r [none, some tB, none]) (.c (.s (.r [none, some (.c (.agg [.int .i64, .str, .int .i64, .int .i64])), none, none]) (.s (.r [none, some tS, none, some tP, none]) (.s (.j [(6, .b .ptr)] (.b (.l [(6, .b .ptr)] (.s (.s (.r [none, some tB]) (.c (.x) (.x))) (.b (.r [none, some tS, none, none, some tSl, some tP, none])))))) (.s (.r [none, some tP, none]) (.s (.d (.q 0 none (.q 1 (some tI) (.q 2 none (.q 3 none (.q 4 none (.l 5 (some tP) (.l 6 (some tSl) (.l 7 (some tP) (.q 8 none (.e))))))))))) (.x)))))) (.s (.r [none, some tB, none]) (.c (.s (.s (.r [none, some tB]) (.c (.s (.d (.q 0 none (.q 2 none (.q 3 (some tI) (.l 1 (some tS) (.l 4 (some tP) (.q 5 none (.e)))))))) (.x)) (.x))) (.s (.d (.q 0 none (.q 1 (some tI) (.q 2 none (.l 3 (some tP) (.l 4 (some tSl) (.l 5 (some tP) (.q 6 none (.e))))))))) (.x))) (.x))))))))) (.s (.r [none, some tU]) (.s (.r [none]) (.x))))
def t_parser_worded (a0_a0 : Addr) (a1_a1 : HB [.int .i64, .str, .int .i64, .int .i64]) : T :=
 .op (boxS T_api_Token (.agg #[.int .i64 a1_a1.1, .string a1_a1.2.1, .int .i64 a1_a1.2.2.1, .int .i64 a1_a1.2.2.2.1])) tA fun r1 =>
 .join 0 [] (
 .op (ldS T_string (.pointer (some ⟨r1.block, r1.off + 1, none⟩))) tS fun r2 =>
 .op (callS F_syntax_words #[.string r2]) tI fun r3 =>
 .ite ((r3 : Int) != 0) (
 .op (callS F_parser_next #[.pointer (some a0_a0)]) (.c (.agg [.int .i64, .str, .int .i64, .int .i64])) fun r4 =>
 .draw <|
 .opq (ldS T_string (.pointer (some ⟨r1.block, r1.off + 1, none⟩))) tS fun r5 =>
 .opq (ldS T_int (.pointer (some ⟨r1.block, r1.off + 2, none⟩))) tI fun r6 =>
 .opl (callS F_syntax_words #[.string r5]) tI fun r7 =>
 .opl (callS F_syntax_made #[.int .i64 r7, .string kE, .int .i64 0, .int .i64 r6, .slice none 0 0]) tP fun r8 =>
 .ret #[.v (.pointer r8)]) (
 .op (callS F_parser_take #[.pointer (some a0_a0), .string knew]) tB fun r9 =>
 .ite r9 (
 .op (callS F_parser_now #[.pointer (some a0_a0)]) (.c (.agg [.int .i64, .str, .int .i64, .int .i64])) fun r10 =>
 .op (callS F_parser_name #[.pointer (some a0_a0)]) tS fun r11 =>
 .op (callS F_syntax_made #[.int .i64 17, .string r11, .int .i64 0, .int .i64 r10.2.2.1, .slice none 0 0]) tP fun r12 =>
 .join 1 [.b .ptr] (
 .loop 2 [.b .ptr] [.pointer r12] fun x13 =>
 .op (callS F_parser_take #[.pointer (some a0_a0), .string k_dot]) tB fun r14 =>
 .ite r14 (
 .op (callS F_parser_name #[.pointer (some a0_a0)]) tS fun r15 =>
 .op (sliceS T_SPsyntax_node 1 #[(0, .pointer x13.1)]) tSl fun r16 =>
 .op (callS F_syntax_made #[.int .i64 29, .string r15, .int .i64 0, .int .i64 r10.2.2.1, .slice r16.1 r16.2.1 r16.2.2]) tP fun r17 =>
 .out 2 [.pointer r17]) (
 .out 1 [.pointer x13.1])) fun x18 =>
 .op (callS F_parser_args #[.pointer (some a0_a0)]) tP fun r19 =>
 .draw <|
 .opq (ldS T_int (.pointer (some ⟨r1.block, r1.off + 2, none⟩))) tI fun r20 =>
 .opl (callS F_parser_given #[.pointer (some a0_a0)]) tP fun r21 =>
 .opl (sliceS T_SPsyntax_node 3 #[(0, .pointer x18.1), (1, .pointer r19), (2, .pointer r21)]) tSl fun r22 =>
 .opl (callS F_syntax_made #[.int .i64 28, .string kE, .int .i64 0, .int .i64 r20, .slice r22.1 r22.2.1 r22.2.2]) tP fun r23 =>
 .ret #[.v (.pointer r23)]) (
 .op (callS F_parser_take #[.pointer (some a0_a0), .string ksuper]) tB fun r24 =>
 .ite r24 (
 .op (callS F_parser_take #[.pointer (some a0_a0), .string k_dot]) tB fun r25 =>
 .ite r25 (
 .draw <|
 .opq (ldS T_int (.pointer (some ⟨r1.block, r1.off + 2, none⟩))) tI fun r26 =>
 .opl (callS F_parser_name #[.pointer (some a0_a0)]) tS fun r27 =>
 .opl (callS F_syntax_made #[.int .i64 32, .string r27, .int .i64 0, .int .i64 r26, .slice none 0 0]) tP fun r28 =>
 .ret #[.v (.pointer r28)]) (
 .draw <|
 .opq (ldS T_int (.pointer (some ⟨r1.block, r1.off + 2, none⟩))) tI fun r29 =>
 .opl (callS F_parser_given #[.pointer (some a0_a0)]) tP fun r30 =>
 .opl (sliceS T_SPsyntax_node 1 #[(0, .pointer r30)]) tSl fun r31 =>
 .opl (callS F_syntax_made #[.int .i64 31, .string kE, .int .i64 0, .int .i64 r29, .slice r31.1 r31.2.1 r31.2.2]) tP fun r32 =>
 .ret #[.v (.pointer r32)])) (
 .out 0 [])))) fun x33 =>
 .op (callS F_parser_fail #[.pointer (some a0_a0)]) tU fun _ =>
 .ret #[.v (.pointer none)]
theorem d_parser_worded (a0_a0 : Addr) (a1_a1 : HB [.int .i64, .str, .int .i64, .int .i64]) : fnT Tryz.prog Tryz.f264 an_parser_worded [.pointer (some a0_a0), .agg #[.int .i64 a1_a1.1, .string a1_a1.2.1, .int .i64 a1_a1.2.2.1, .int .i64 a1_a1.2.2.2.1]] = t_parser_worded a0_a0 a1_a1 := by kernel_rfl
theorem c_parser_worded {ε σ β : Type} {I : Ifc ε σ} {t : Ty} {s : Sp ε σ β} {Rel : β → t.den → Own → Fact} {Γ : List Fact} (a0_a0 : Addr) (a1_a1 : HB [.int .i64, .str, .int .i64, .int .i64]) (h : Sim Tryz.prog I t Rel noLabel none (t_parser_worded a0_a0 a1_a1) s [] Γ) : MeetsO Tryz.prog I (callS F_parser_worded #[.pointer (some a0_a0), .agg #[.int .i64 a1_a1.1, .string a1_a1.2.1, .int .i64 a1_a1.2.2.1, .int .i64 a1_a1.2.2.2.1]]) t s Rel Γ :=
  meets_of_sim (args := [.pointer (some a0_a0), .agg #[.int .i64 a1_a1.1, .string a1_a1.2.1, .int .i64 a1_a1.2.2.1, .int .i64 a1_a1.2.2.2.1]]) Tryz.func264 rfl rfl (Nat.le_of_ble_eq_true rfl) (by rw [d_parser_worded]; exact h)

def an_parser_template : An :=
  .s (.r [none]) (.s (.r [none, some (.c (.agg [.int .i64, .str, .int .i64, .int .i64])), some tA, some tU]) (.s (.d (.q 0 none (.q 1 (some tI) (.q 2 none (.q 3 (some tS) (.q 4 none (.q 5 (some tI) (.l 6 (some tP) (.l 7 (some tSl) (.l 8 (some tP) (.q 9 none (.e)))))))))))) (.s (.b (.l [] (.s (.s (.j [(24, .b .bool)] (.r [none, some tI, none, none, none, some tI, none, none])) (.c (.x) (.x))) (.b (.s (.d (.q 0 none (.q 1 none (.q 2 (some tA) (.q 3 none (.q 4 (some tSl) (.q 5 none (.l 6 (some tP) (.l 7 (some tSl) (.l 8 (some tSl) (.q 9 (some tA) (.q 10 none (.l 11 (some tU) (.e)))))))))))))) (.s (.s (.r [none, some (.c (.agg [.int .i64, .str, .int .i64, .int .i64])), none, none]) (.s (.j [(44, .b .bool)] (.r [none, none, none, none, none, none])) (.j [] (.c (.r [none, some tU]) (.x))))) (.s (.r [none, some (.c (.agg [.int .i64, .str, .int .i64, .int .i64])), some tU]) (.d (.q 0 none (.q 1 none (.q 2 (some tA) (.q 3 none (.q 4 (some tSl) (.q 5 none (.q 6 (some tS) (.q 7 none (.q 8 (some tI) (.l 9 (some tP) (.l 10 (some tSl) (.l 11 (some tSl) (.q 12 (some tA) (.q 13 none (.l 14 (some tU) (.e)))))))))))))))))))))))) (.s (.r [none, none]) (.x)))))
def t_parser_template (a0_p : Addr) : T :=
 .op (callS F_parser_next #[.pointer (some a0_p)]) (.c (.agg [.int .i64, .str, .int .i64, .int .i64])) fun r1 =>
 .op (allocS T_api_Token) tA fun r2 =>
 .op (stS T_api_Token (.pointer (some r2)) (.agg #[.int .i64 r1.1, .string r1.2.1, .int .i64 r1.2.2.1, .int .i64 r1.2.2.2.1])) tU fun _ =>
 .draw <|
 .opq (ldS T_int (.pointer (some ⟨r2.block, r2.off + 2, none⟩))) tI fun r4 =>
 .opq (ldS T_string (.pointer (some ⟨r2.block, r2.off + 1, none⟩))) tS fun r5 =>
 .opq (ldS T_int (.pointer (some ⟨r2.block, r2.off + 2, none⟩))) tI fun r6 =>
 .opl (callS F_syntax_made #[.int .i64 11, .string r5, .int .i64 0, .int .i64 r6, .slice none 0 0]) tP fun r7 =>
 .opl (sliceS T_SPsyntax_node 1 #[(0, .pointer r7)]) tSl fun r8 =>
 .opl (callS F_syntax_made #[.int .i64 12, .string kE, .int .i64 0, .int .i64 r4, .slice r8.1 r8.2.1 r8.2.2]) tP fun r9 =>
 .loop 0 [] [] fun x10 =>
 .join 1 [.b .bool] (
 .op (ldS T_int (.pointer (some r2))) tI fun r11 =>
 .ite ((r11 : Int) != 5) (
 .op (ldS T_int (.pointer (some r2))) tI fun r12 =>
 .out 1 [.bool ((r12 : Int) != 8)]) (
 .out 1 [.bool false])) fun x13 =>
 .ite x13.1 (
 .draw <|
 .opq (nilS (.pointer r9)) tA fun r14 =>
 .opq (ldS T_SPsyntax_node (.pointer (some ⟨r14.block, r14.off + 5, none⟩))) tSl fun r15 =>
 .opl (callS F_parser_expr #[.pointer (some a0_p)]) tP fun r16 =>
 .opl (sliceS T_SPsyntax_node 1 #[(0, .pointer r16)]) tSl fun r17 =>
 .opl (appS #[T_SPsyntax_node, T_SPsyntax_node] T_SPsyntax_node #[.slice r15.1 r15.2.1 r15.2.2, .slice r17.1 r17.2.1 r17.2.2]) tSl fun r18 =>
 .opq (nilS (.pointer r9)) tA fun r19 =>
 .op (stS T_SPsyntax_node (.pointer (some ⟨r19.block, r19.off + 5, none⟩)) (.slice r18.1 r18.2.1 r18.2.2)) tU fun _ =>
 .op (callS F_parser_now #[.pointer (some a0_p)]) (.c (.agg [.int .i64, .str, .int .i64, .int .i64])) fun r21 =>
 .join 1 [.b .bool] (
 .ite ((r21.1 : Int) != 7) (
 .out 1 [.bool ((r21.1 : Int) != 8)]) (
 .out 1 [.bool false])) fun x22 =>
 .join 1 [] (
 .ite x22.1 (
 .op (callS F_parser_fail #[.pointer (some a0_p)]) tU fun _ =>
 .out 1 []) (
 .out 1 [])) fun x24 =>
 .op (callS F_parser_next #[.pointer (some a0_p)]) (.c (.agg [.int .i64, .str, .int .i64, .int .i64])) fun r25 =>
 .op (stS T_api_Token (.pointer (some r2)) (.agg #[.int .i64 r25.1, .string r25.2.1, .int .i64 r25.2.2.1, .int .i64 r25.2.2.2.1])) tU fun _ =>
 .draw <|
 .opq (nilS (.pointer r9)) tA fun r27 =>
 .opq (ldS T_SPsyntax_node (.pointer (some ⟨r27.block, r27.off + 5, none⟩))) tSl fun r28 =>
 .opq (ldS T_string (.pointer (some ⟨r2.block, r2.off + 1, none⟩))) tS fun r29 =>
 .opq (ldS T_int (.pointer (some ⟨r2.block, r2.off + 2, none⟩))) tI fun r30 =>
 .opl (callS F_syntax_made #[.int .i64 11, .string r29, .int .i64 0, .int .i64 r30, .slice none 0 0]) tP fun r31 =>
 .opl (sliceS T_SPsyntax_node 1 #[(0, .pointer r31)]) tSl fun r32 =>
 .opl (appS #[T_SPsyntax_node, T_SPsyntax_node] T_SPsyntax_node #[.slice r28.1 r28.2.1 r28.2.2, .slice r32.1 r32.2.1 r32.2.2]) tSl fun r33 =>
 .opq (nilS (.pointer r9)) tA fun r34 =>
 .op (stS T_SPsyntax_node (.pointer (some ⟨r34.block, r34.off + 5, none⟩)) (.slice r33.1 r33.2.1 r33.2.2)) tU fun _ =>
 .out 0 []) (
 .ret #[.v (.pointer r9)])
theorem d_parser_template (a0_p : Addr) : fnT Tryz.prog Tryz.f263 an_parser_template [.pointer (some a0_p)] = t_parser_template a0_p := by kernel_rfl
theorem c_parser_template {ε σ β : Type} {I : Ifc ε σ} {t : Ty} {s : Sp ε σ β} {Rel : β → t.den → Own → Fact} {Γ : List Fact} (a0_p : Addr) (h : Sim Tryz.prog I t Rel noLabel none (t_parser_template a0_p) s [] Γ) : MeetsO Tryz.prog I (callS F_parser_template #[.pointer (some a0_p)]) t s Rel Γ :=
  meets_of_sim (args := [.pointer (some a0_p)]) Tryz.func263 rfl rfl (Nat.le_of_ble_eq_true rfl) (by rw [d_parser_template]; exact h)

def an_parser_object : An :=
  .s (.r [none]) (.b (.s (.r [none, some (.c (.agg [.int .i64, .str, .int .i64, .int .i64])), none, some tP, none]) (.s (.r [none, some tU]) (.s (.x) (.s (.j [] (.b (.l [] (.s (.s (.r [none, some tB, none]) (.c (.x) (.x))) (.b (.s (.r [none, some (.c (.agg [.int .i64, .str, .int .i64, .int .i64])), none, none]) (.s (.r [none, some tS, none]) (.s (.r [none, none, some tP, none]) (.s (.s (.r [none, some tB]) (.j [(6, .b .ptr)] (.c (.r [none, some tP, none]) (.x)))) (.s (.d (.q 0 none (.q 1 none (.q 2 (some tA) (.q 3 none (.q 4 (some tSl) (.q 5 none (.q 6 none (.q 7 none (.l 8 (some tSl) (.l 9 (some tP) (.l 10 (some tSl) (.l 11 (some tSl) (.q 12 (some tA) (.q 13 none (.l 14 (some tU) (.e))))))))))))))))) (.s (.r [none, some tB, none]) (.c (.x) (.x))))))))))))) (.s (.r [none, some tU]) (.s (.r [none, none]) (.x))))))))
def t_parser_object (a0_p : Addr) : T :=
 .op (callS F_parser_now #[.pointer (some a0_p)]) (.c (.agg [.int .i64, .str, .int .i64, .int .i64])) fun r1 =>
 .op (callS F_syntax_made #[.int .i64 20, .string kE, .int .i64 0, .int .i64 r1.2.2.1, .slice none 0 0]) tP fun r2 =>
 .op (callS F_parser_must #[.pointer (some a0_p), .string k_lc]) tU fun _ =>
 .join 0 [] (
 .loop 1 [] [] fun x4 =>
 .op (callS F_parser_is #[.pointer (some a0_p), .string k_rc]) tB fun r5 =>
 .ite (!r5) (
 .op (callS F_parser_now #[.pointer (some a0_p)]) (.c (.agg [.int .i64, .str, .int .i64, .int .i64])) fun r6 =>
 .op (callS F_parser_name #[.pointer (some a0_p)]) tS fun r7 =>
 .op (callS F_syntax_made #[.int .i64 17, .string r7, .int .i64 0, .int .i64 r6.2.2.1, .slice none 0 0]) tP fun r8 =>
 .op (callS F_parser_take #[.pointer (some a0_p), .string k_colon]) tB fun r9 =>
 .join 2 [.b .ptr] (
 .ite r9 (
 .op (callS F_parser_expr #[.pointer (some a0_p)]) tP fun r10 =>
 .out 2 [.pointer r10]) (
 .out 2 [.pointer r8])) fun x11 =>
 .draw <|
 .opq (nilS (.pointer r2)) tA fun r12 =>
 .opq (ldS T_SPsyntax_node (.pointer (some ⟨r12.block, r12.off + 5, none⟩))) tSl fun r13 =>
 .opl (sliceS T_SPsyntax_node 1 #[(0, .pointer x11.1)]) tSl fun r14 =>
 .opl (callS F_syntax_made #[.int .i64 21, .string r7, .int .i64 0, .int .i64 r6.2.2.1, .slice r14.1 r14.2.1 r14.2.2]) tP fun r15 =>
 .opl (sliceS T_SPsyntax_node 1 #[(0, .pointer r15)]) tSl fun r16 =>
 .opl (appS #[T_SPsyntax_node, T_SPsyntax_node] T_SPsyntax_node #[.slice r13.1 r13.2.1 r13.2.2, .slice r16.1 r16.2.1 r16.2.2]) tSl fun r17 =>
 .opq (nilS (.pointer r2)) tA fun r18 =>
 .op (stS T_SPsyntax_node (.pointer (some ⟨r18.block, r18.off + 5, none⟩)) (.slice r17.1 r17.2.1 r17.2.2)) tU fun _ =>
 .op (callS F_parser_take #[.pointer (some a0_p), .string k_comma]) tB fun r20 =>
 .ite (!r20) (
 .out 0 []) (
 .out 1 [])) (
 .out 0 [])) fun x21 =>
 .op (callS F_parser_must #[.pointer (some a0_p), .string k_rc]) tU fun _ =>
 .ret #[.v (.pointer r2)]
theorem d_parser_object (a0_p : Addr) : fnT Tryz.prog Tryz.f265 an_parser_object [.pointer (some a0_p)] = t_parser_object a0_p := by kernel_rfl
theorem c_parser_object {ε σ β : Type} {I : Ifc ε σ} {t : Ty} {s : Sp ε σ β} {Rel : β → t.den → Own → Fact} {Γ : List Fact} (a0_p : Addr) (h : Sim Tryz.prog I t Rel noLabel none (t_parser_object a0_p) s [] Γ) : MeetsO Tryz.prog I (callS F_parser_object #[.pointer (some a0_p)]) t s Rel Γ :=
  meets_of_sim (args := [.pointer (some a0_p)]) Tryz.func265 rfl rfl (Nat.le_of_ble_eq_true rfl) (by rw [d_parser_object]; exact h)
end
end Go.Proofs.YtjlgcpgjdgeejaaGreatDoor
end

/- The parser of expressions. Conditions: none. -/
section
namespace Go.Proofs.YtjlgcpgjdgeejaaGreatDoor
open Go
set_option linter.unusedSimpArgs false
set_option linter.unusedVariables false
set_option linter.constructorNameAsVariable false
set_option maxRecDepth 100000

theorem words_m {ε σ : Type} (I : Ifc ε σ) (s : ByteArray) : Meets PG I (callS F_syntax_words #[.string s]) tI (Pure.pure (wordsI s)) RelEq [] := by
  refine c_syntax_words s ?_
  unfold t_syntax_words
  have fin : ∀ (c : Int), c = wordsI s → Sim PG I tI (pl RelEq) noLabel none (.ret #[.v (.int .i64 c)]) (Pure.pure (wordsI s)) [] [] := fun c hc => sim_ret1 (t := tI) c rfl (fun F _ => hc)
  refine qE (fun h1 => fin _ (by unfold wordsI; rw [h1]; rfl)) fun h1 => ?_
  refine qE (fun h2 => fin _ (by unfold wordsI; rw [h1, h2]; rfl)) fun h2 => ?_
  refine qE (fun h3 => fin _ (by unfold wordsI; rw [h1, h2, h3]; rfl)) fun h3 => ?_
  refine qE (fun h4 => fin _ (by unfold wordsI; rw [h1, h2, h3, h4]; rfl)) fun h4 => ?_
  refine qE (fun h5 => fin _ (by unfold wordsI; rw [h1, h2, h3, h4, h5]; rfl)) fun h5 => ?_
  exact fin _ (by unfold wordsI; rw [h1, h2, h3, h4, h5]; rfl)
theorem arrow_m (pb : Nat) : Meets PG (PI pb) (callS F_parser_arrow #[.pointer (some (pAt pb))]) tB arrowS RelEq [] := by
  refine c_parser_arrow (pAt pb) ?_
  unfold t_parser_arrow arrowS
  (with_reducible repeat (first | refine sA ?_ | refine sB ?_ | refine sC ?_ | refine sD ?_ | refine sE ?_ | refine sF ?_))
  first | refine sim_op (now_m _) (fun _ h => nomatch h) fun r1 b => Sim.prop fun h => ?_ | refine sim_op1 (now_m _) (fun _ h => nomatch h) fun r1 b => Sim.prop fun h => ?_
  subst h
  (with_reducible repeat (first | refine sA ?_ | refine sB ?_ | refine sC ?_ | refine sD ?_ | refine sE ?_ | refine sF ?_))
  (first | refine qA (fun h => ?_) fun h => ?_ | refine qB (fun h => ?_) fun h => ?_ | refine qC (fun h => ?_) fun h => ?_ | refine qD (fun h => ?_) fun h => ?_ | refine qE (fun h => ?_) fun h => ?_) -- ((r1.1 : Int) == 1)
  · skip
    (with_reducible repeat (first | refine sA ?_ | refine sB ?_ | refine sC ?_ | refine sD ?_ | refine sE ?_ | refine sF ?_))
    first | refine sim_op (then_m _ _ (by decide) (by decide)) (fun _ h => nomatch h) fun r2 b => Sim.prop fun h => ?_ | refine sim_op1 (then_m _ _ (by decide) (by decide)) (fun _ h => nomatch h) fun r2 b => Sim.prop fun h => ?_
    subst h
    refine sim_val (says_m _ _ _) (fun _ h => nomatch h) ?_
    exact sim_ret1 (t := tB) _ rfl (fun F _ => rfl)
  · skip
    (with_reducible repeat (first | refine sA ?_ | refine sB ?_ | refine sC ?_ | refine sD ?_ | refine sE ?_ | refine sF ?_))
    first | refine sim_op (is_m _ _) (fun _ h => nomatch h) fun r4 b => Sim.prop fun h => ?_ | refine sim_op1 (is_m _ _) (fun _ h => nomatch h) fun r4 b => Sim.prop fun h => ?_
    subst h
    (with_reducible repeat (first | refine sA ?_ | refine sB ?_ | refine sC ?_ | refine sD ?_ | refine sE ?_ | refine sF ?_))
    (first | refine qA (fun h => ?_) fun h => ?_ | refine qB (fun h => ?_) fun h => ?_ | refine qC (fun h => ?_) fun h => ?_ | refine qD (fun h => ?_) fun h => ?_ | refine qE (fun h => ?_) fun h => ?_) -- r4
    · skip
      (with_reducible repeat (first | refine sA ?_ | refine sB ?_ | refine sC ?_ | refine sD ?_ | refine sE ?_ | refine sF ?_))
      first | refine sim_op (closed_m _) (fun _ h => nomatch h) fun r5 b => Sim.prop fun h => ?_ | refine sim_op1 (closed_m _) (fun _ h => nomatch h) fun r5 b => Sim.prop fun h => ?_
      subst h
      refine sim_val (says_m _ _ _) (fun _ h => nomatch h) ?_
      exact sim_ret1 (t := tB) _ rfl (fun F _ => rfl)
    · skip
      (with_reducible repeat (first | refine sA ?_ | refine sB ?_ | refine sC ?_ | refine sD ?_ | refine sE ?_ | refine sF ?_))
      first | refine sim_op (is_m _ _) (fun _ h => nomatch h) fun r7 b => Sim.prop fun h => ?_ | refine sim_op1 (is_m _ _) (fun _ h => nomatch h) fun r7 b => Sim.prop fun h => ?_
      subst h
      exact sim_ret1 (t := tB) _ rfl (fun F _ => rfl)
theorem given_m {R : PRec} (hR : PRecM R) (pb : Nat) : Meets PG (PI pb) (callS F_parser_given #[.pointer (some (pAt pb))]) tP (givenS R) NodeF [] := by
  refine c_parser_given (pAt pb) ?_
  unfold t_parser_given givenS
  (with_reducible repeat (first | refine sA ?_ | refine sB ?_ | refine sC ?_ | refine sD ?_ | refine sE ?_ | refine sF ?_))
  first | refine sim_op (must_m _ _) (fun _ h => nomatch h) fun x b => ?_ | refine sim_op1 (must_m _ _) (fun _ h => nomatch h) fun x b => ?_
  (with_reducible repeat (first | refine sA ?_ | refine sB ?_ | refine sC ?_ | refine sD ?_ | refine sE ?_ | refine sF ?_))
  first | refine sim_op (empty_m _) (fun _ h => nomatch h) fun r2 nr2 => ?_ | refine sim_op1 (empty_m _) (fun _ h => nomatch h) fun r2 nr2 => ?_
  (with_reducible repeat (first | refine sA ?_ | refine sB ?_ | refine sC ?_ | refine sD ?_ | refine sE ?_ | refine sF ?_))
  first | refine sim_op (is_m _ _) (fun _ h => nomatch h) fun r3 b => Sim.prop fun h => ?_ | refine sim_op1 (is_m _ _) (fun _ h => nomatch h) fun r3 b => Sim.prop fun h => ?_
  subst h
  (with_reducible repeat (first | refine sA ?_ | refine sB ?_ | refine sC ?_ | refine sD ?_ | refine sE ?_ | refine sF ?_))
  (first | refine qA (fun h => ?_) fun h => ?_ | refine qB (fun h => ?_) fun h => ?_ | refine qC (fun h => ?_) fun h => ?_ | refine qD (fun h => ?_) fun h => ?_ | refine qE (fun h => ?_) fun h => ?_) -- (!r3)
  · skip
    (with_reducible repeat (first | refine sA ?_ | refine sB ?_ | refine sC ?_ | refine sD ?_ | refine sE ?_ | refine sF ?_))
    first | refine sim_opO (list_m pb _ _ R.fuel (Nat.le_trans hR.fuel (by decide)) (MeetsO.congr (run_callv1 _ _) (hR.expr _))) (fun _ h => nomatch h) fun r4 nr4 Kr4 => ?_ | refine sim_op1O (list_m pb _ _ R.fuel (Nat.le_trans hR.fuel (by decide)) (MeetsO.congr (run_callv1 _ _) (hR.expr _))) (fun _ h => nomatch h) fun r4 nr4 Kr4 => ?_
    refine sim_doneM (by repeat (first | exact mz | apply ms)) ?_
    (with_reducible repeat (first | refine sA ?_ | refine sB ?_ | refine sC ?_ | refine sD ?_ | refine sE ?_ | refine sF ?_))
    first | refine sim_op (must_m _ _) (fun _ h => nomatch h) fun x b => ?_ | refine sim_op1 (must_m _ _) (fun _ h => nomatch h) fun x b => ?_
    (with_reducible repeat (first | refine sA ?_ | refine sB ?_ | refine sC ?_ | refine sD ?_ | refine sE ?_ | refine sF ?_))
    exact sim_ret1 (t := tP) _ rfl (fun F hF => hF _ (by repeat (first | exact mz | apply ms)))
  · skip
    (with_reducible repeat (first | refine sA ?_ | refine sB ?_ | refine sC ?_ | refine sD ?_ | refine sE ?_ | refine sF ?_))
    first | refine sim_op (must_m _ _) (fun _ h => nomatch h) fun x b => ?_ | refine sim_op1 (must_m _ _) (fun _ h => nomatch h) fun x b => ?_
    (with_reducible repeat (first | refine sA ?_ | refine sB ?_ | refine sC ?_ | refine sD ?_ | refine sE ?_ | refine sF ?_))
    exact sim_ret1 (t := tP) _ rfl (fun F hF => hF _ (by repeat (first | exact mz | apply ms)))
theorem template_m {R : PRec} (hR : PRecM R) (pb : Nat) : Meets PG (PI pb) (callS F_parser_template #[.pointer (some (pAt pb))]) tP (templateS R) NodeF [] := by
  refine c_parser_template (pAt pb) ?_
  unfold t_parser_template templateS
  refine sim_op (next_m _) (fun _ h => nomatch h) fun r1 b => Sim.prop fun h => ?_
  subst h
  refine sim_loc (loc_alloc (z := [.int .i64 0, .string kE, .int .i64 0, .int .i64 0]) (by kernel_rfl)) ?_
  rintro _ _ _ ⟨b2, rfl, rfl, rfl⟩
  refine sim_loc (loc_st (L1 := []) (T := T_api_Token) (c := true) rfl (by kernel_rfl) rfl (Nat.le_of_ble_eq_true rfl) (by simp [Value.cells, Value.oneCell'])) ?_
  rintro _ _ _ ⟨rfl, rfl⟩
  show Sim PG (PI pb) tP (pl NodeF) noLabel none _ _ [(b2, blk T_api_Token (encTok r1))] _
  refine sim_draw [(b2, blk T_api_Token (encTok r1))] (fun p hp => hp) ?_
  refine sim_opq (t1 := tI) (Tok.pos r1) (qval_ld1 (QRd.own (List.mem_cons_self ..)) (by kernel_rfl) rfl rfl) ?_
  refine sim_opq (t1 := tS) (Tok.text r1) (qval_ld1 (QRd.own (List.mem_cons_self ..)) (by kernel_rfl) rfl rfl) ?_
  refine sim_opq (t1 := tI) (Tok.pos r1) (qval_ld1 (QRd.own (List.mem_cons_self ..)) (by kernel_rfl) rfl rfl) ?_
  refine sim_made0l fun r7 => ?_
  refine sim_locl (loc_ptrs_own [r7] rfl (by decide) (by decide) (by kernel_rfl)) ?_
  rintro x _ _ ⟨K2, rfl, rfl, hb⟩
  refine ⟨fun p hp => List.mem_append_right _ hp, ?_⟩
  refine sim_locl (made_loc _ _ _ _ x) ?_
  rintro _ _ _ ⟨bx, rfl, rfl, rfl⟩
  refine ⟨fun p hp => List.mem_cons_of_mem _ (List.mem_append_right _ hp), ?_⟩
  refine Sim.know (A := OwnN (mkN 12 kE 0 (Tok.pos r1) [mkN 11 (Tok.text r1) 0 (Tok.pos r1) []]) (some ⟨bx, 0, none⟩) (ownBlk bx (mkN 12 kE 0 (Tok.pos r1) [mkN 11 (Tok.text r1) 0 (Tok.pos r1) []]) x :: K2)) (fun F hF => ⟨bx, x, [r7], K2, ⟨rfl, rfl, hb⟩, NodesAt.one (hF _ (by repeat (first | exact mz | apply ms)))⟩) ?_
  refine sim_fuel (δ := Tok × N) (fun k d => piecesTS R k d.1 d.2) (fun k d vs L' => Fact.ex fun K : Own => (Fact.prop (vs = [] ∧ L' = K ++ [(b2, blk T_api_Token (encTok d.1))] ∧ d.2.kids.length + 2 * k ≤ 2199023255552)).both (OwnN d.2 (some ⟨bx, 0, none⟩) K)) R.fuel (r1, _) (fun _ => rfl) rfl
    (fun F hF => ⟨ownBlk bx _ x :: K2, ⟨rfl, rfl, by have := hR.fuel; show 1 + 2 * R.fuel ≤ _; omega⟩, hF _ (List.mem_cons_self ..)⟩) (by rintro k d vs L' F ⟨K, ⟨rfl, _⟩, _⟩; exact ⟨(), rfl⟩) ?_
  rintro k ⟨t, n⟩ L' ⟨⟩
  refine Sim.ex fun K => Sim.both (Sim.prop fun ⟨_, hL, hn⟩ => ?_)
  subst hL
  simp only at hn
  have hm : (b2, blk T_api_Token (encTok t)) ∈ K ++ [(b2, blk T_api_Token (encTok t))] := List.mem_append_right _ (List.mem_cons_self ..)
  refine sim_joinB (s' := fun c => cond c (do
      let x ← R.expr
      let u ← nowS
      cond (u.kind != 7 && u.kind != 8) failS do
        let v ← nextS
        piecesTS R k v ((n.push x).push (mkN 11 v.text 0 v.pos []))) (pure n)) ?_ fun x13 => ?_
  · refine sim_loc (loc_ld1 (b1 := .int .i64) (x := Tok.kind t) (Rd.own hm) (by kernel_rfl) rfl rfl) ?_
    rintro _ _ _ ⟨rfl, rfl, rfl⟩
    refine qE (fun h => ?_) (fun h => ?_)
    · refine sim_loc (loc_ld1 (b1 := .int .i64) (x := Tok.kind t) (Rd.own hm) (by kernel_rfl) rfl rfl) ?_
      rintro _ _ _ ⟨rfl, rfl, rfl⟩
      exact sim_outB _ rfl (by show cond (Tok.kind t != 5 && Tok.kind t != 8) _ _ = _; rw [show (Tok.kind t != 5) = true from h, Bool.true_and])
    · exact sim_outB _ rfl (by show cond (Tok.kind t != 5 && Tok.kind t != 8) _ _ = _; rw [show (Tok.kind t != 5) = false from h, Bool.false_and])
  · refine qA (fun h => ?_) (fun h => ?_)
    · refine sim_growME [(b2, blk T_api_Token (encTok t))] (fun p hp => hp) (by repeat (first | exact mz | apply ms)) fun b sl ps K2 hx hb => ?_
      refine sim_opl (hR.expr _) (fun _ h => nomatch h) fun r16 nr16 => ?_
      obtain rfl : bx = b := by cases hx; rfl
      refine sim_pushE (fun p hp => hp) hb (by repeat (first | exact mz | apply ms)) (by repeat (first | exact mz | apply ms)) (by omega) fun K => ?_
      refine sim_op (now_m _) (fun _ h => nomatch h) fun r21 b => Sim.prop fun h => ?_
      subst h
      refine sim_joinB (s' := fun c => cond c failS do
        let v ← nextS
        piecesTS R k v ((n.push nr16).push (mkN 11 v.text 0 v.pos []))) ?_ fun x22 => ?_
      · refine qE (fun h => ?_) (fun h => ?_)
        · exact sim_outB _ rfl (by rw [show (Tok.kind r21 != 7) = true from h, Bool.true_and]; rfl)
        · exact sim_outB _ rfl (by rw [show (Tok.kind r21 != 7) = false from h, Bool.false_and])
      · first | refine sim_joinFail ?_ ?_ | refine sim_joinU failS ?_ ?_
        · refine qA (fun h => ?_) (fun h => ?_)
          · exact sim_fails (β1 := Unit) (Rel1 := fun _ _ _ => Fact.prop True) (fail_m _) (fun _ h => nomatch h) (by first | exact errs_fail | exact errs_failb _)
          · exact sim_outU rfl rfl
        · refine sim_op (next_m _) (fun _ h => nomatch h) fun r25 b => Sim.prop fun h => ?_
          subst h
          refine sim_loc (loc_st (L1 := K) (L2 := []) (T := T_api_Token) (c := true) rfl (by kernel_rfl) rfl (Nat.le_of_ble_eq_true rfl) (by simp [Value.cells, Value.oneCell'])) ?_
          rintro _ _ _ ⟨rfl, rfl⟩
          show Sim PG (PI pb) tP (pl NodeF) _ none _ _ (K ++ [(b2, blk T_api_Token (encTok r25))]) _
          refine sim_growME [(b2, blk T_api_Token (encTok r25))] (fun p hp => hp) (by repeat (first | exact mz | apply ms)) fun b sl ps K2 hx hb => ?_
          refine sim_opq (t1 := tS) (Tok.text r25) (qval_ld1 (QRd.own (List.mem_cons_of_mem _ (List.mem_cons_self ..))) (by kernel_rfl) rfl rfl) ?_
          refine sim_opq (t1 := tI) (Tok.pos r25) (qval_ld1 (QRd.own (List.mem_cons_of_mem _ (List.mem_cons_self ..))) (by kernel_rfl) rfl rfl) ?_
          refine sim_made0l fun r31 => ?_
          obtain rfl : bx = b := by cases hx; rfl
          refine sim_pushE (fun p hp => hp) hb (by repeat (first | exact mz | apply ms)) (by repeat (first | exact mz | apply ms)) (by rw [N.push_len]; omega) fun K => ?_
          refine sim_outX rfl ⟨(k, (r25, (n.push nr16).push (mkN 11 (Tok.text r25) 0 (Tok.pos r25) []))), Nat.lt_succ_self k⟩ rfl fun F hF => ⟨K, ⟨rfl, rfl, ?_⟩, hF _ (List.mem_cons_self ..)⟩
          simp only [N.push_len]; omega
    · refine sim_doneM (n := n) (by repeat (first | exact mz | apply ms)) ?_
      exact sim_ret1 (t := tP) _ rfl (fun F hF => hF _ (by repeat (first | exact mz | apply ms)))
theorem object_m {R : PRec} (hR : PRecM R) (pb : Nat) : Meets PG (PI pb) (callS F_parser_object #[.pointer (some (pAt pb))]) tP (objectS R) NodeF [] := by
  refine c_parser_object (pAt pb) ?_
  unfold t_parser_object objectS
  (with_reducible repeat (first | refine sA ?_ | refine sB ?_ | refine sC ?_ | refine sD ?_ | refine sE ?_ | refine sF ?_))
  first | refine sim_op (now_m _) (fun _ h => nomatch h) fun r1 b => Sim.prop fun h => ?_ | refine sim_op1 (now_m _) (fun _ h => nomatch h) fun r1 b => Sim.prop fun h => ?_
  subst h
  refine sim_own0 fun r2 Kr2 => ?_
  (with_reducible repeat (first | refine sA ?_ | refine sB ?_ | refine sC ?_ | refine sD ?_ | refine sE ?_ | refine sF ?_))
  first | refine sim_op (must_m _ _) (fun _ h => nomatch h) fun x b => ?_ | refine sim_op1 (must_m _ _) (fun _ h => nomatch h) fun x b => ?_
  refine sim_joinO (fun n => do mustS k_rc; pure n) r2 [] ?_ fun n K => ?_
  · skip
    refine sim_fuelO (pairsS R) R.fuel _ (fun _ => rfl) rfl (by have := hR.fuel; simp [mkN, N.kids]; omega) (by repeat (first | exact mz | apply ms)) fun k n K hn => ?_
    (with_reducible repeat (first | refine sA ?_ | refine sB ?_ | refine sC ?_ | refine sD ?_ | refine sE ?_ | refine sF ?_))
    first | refine sim_op (is_m _ _) (fun _ h => nomatch h) fun r5 b => Sim.prop fun h => ?_ | refine sim_op1 (is_m _ _) (fun _ h => nomatch h) fun r5 b => Sim.prop fun h => ?_
    subst h
    (with_reducible repeat (first | refine sA ?_ | refine sB ?_ | refine sC ?_ | refine sD ?_ | refine sE ?_ | refine sF ?_))
    (first | refine qA (fun h => ?_) fun h => ?_ | refine qB (fun h => ?_) fun h => ?_ | refine qC (fun h => ?_) fun h => ?_ | refine qD (fun h => ?_) fun h => ?_ | refine qE (fun h => ?_) fun h => ?_) -- (!r5)
    · skip
      (with_reducible repeat (first | refine sA ?_ | refine sB ?_ | refine sC ?_ | refine sD ?_ | refine sE ?_ | refine sF ?_))
      first | refine sim_op (now_m _) (fun _ h => nomatch h) fun r6 b => Sim.prop fun h => ?_ | refine sim_op1 (now_m _) (fun _ h => nomatch h) fun r6 b => Sim.prop fun h => ?_
      subst h
      (with_reducible repeat (first | refine sA ?_ | refine sB ?_ | refine sC ?_ | refine sD ?_ | refine sE ?_ | refine sF ?_))
      first | refine sim_op (name_m _) (fun _ h => nomatch h) fun r7 b => Sim.prop fun h => ?_ | refine sim_op1 (name_m _) (fun _ h => nomatch h) fun r7 b => Sim.prop fun h => ?_
      subst h
      refine sim_made0 fun r8 => ?_
      (with_reducible repeat (first | refine sA ?_ | refine sB ?_ | refine sC ?_ | refine sD ?_ | refine sE ?_ | refine sF ?_))
      first | refine sim_op (take_m _ _) (fun _ h => nomatch h) fun r9 b => Sim.prop fun h => ?_ | refine sim_op1 (take_m _ _) (fun _ h => nomatch h) fun r9 b => Sim.prop fun h => ?_
      subst h
      refine sim_joinPb NodeF ?_ fun nx11 x11 => ?_
      · skip
        (with_reducible repeat (first | refine sA ?_ | refine sB ?_ | refine sC ?_ | refine sD ?_ | refine sE ?_ | refine sF ?_))
        (first | refine qA (fun h => ?_) fun h => ?_ | refine qB (fun h => ?_) fun h => ?_ | refine qC (fun h => ?_) fun h => ?_ | refine qD (fun h => ?_) fun h => ?_ | refine qE (fun h => ?_) fun h => ?_) -- r9
        · skip
          (with_reducible repeat (first | refine sA ?_ | refine sB ?_ | refine sC ?_ | refine sD ?_ | refine sE ?_ | refine sF ?_))
          first | refine sim_op (hR.expr _) (fun _ h => nomatch h) fun r10 nr10 => ?_ | refine sim_op1 (hR.expr _) (fun _ h => nomatch h) fun r10 nr10 => ?_
          exact sim_outP _ rfl rfl (fun F hF => hF _ (by repeat (first | exact mz | apply ms)))
        · skip
          exact sim_outP _ rfl rfl (fun F hF => hF _ (by repeat (first | exact mz | apply ms)))
      · skip
        refine sim_growM (by repeat (first | exact mz | apply ms)) fun b sl ps K2 hx hb => ?_
        refine sim_nodel [_] [_] rfl (by decide) (by decide) (by kernel_rfl) (fun F hF => (.cons _ _ _ _ (hF (NodeF _ _) (by repeat (first | exact mz | apply ms))) .nil)) (fun p hp => by first | exact absurd hp List.not_mem_nil | (simp at hp; simp [hp])) fun r15 => ?_
        subst hx
        refine sim_push hb (by repeat (first | exact mz | apply ms)) (by repeat (first | exact mz | apply ms)) (by omega) fun K => ?_
        (with_reducible repeat (first | refine sA ?_ | refine sB ?_ | refine sC ?_ | refine sD ?_ | refine sE ?_ | refine sF ?_))
        first | refine sim_op (take_m _ _) (fun _ h => nomatch h) fun r20 b => Sim.prop fun h => ?_ | refine sim_op1 (take_m _ _) (fun _ h => nomatch h) fun r20 b => Sim.prop fun h => ?_
        subst h
        (with_reducible repeat (first | refine sA ?_ | refine sB ?_ | refine sC ?_ | refine sD ?_ | refine sE ?_ | refine sF ?_))
        (first | refine qA (fun h => ?_) fun h => ?_ | refine qB (fun h => ?_) fun h => ?_ | refine qC (fun h => ?_) fun h => ?_ | refine qD (fun h => ?_) fun h => ?_ | refine qE (fun h => ?_) fun h => ?_) -- (!r20)
        · skip
          exact sim_outJO _ rfl rfl (by repeat (first | exact mz | apply ms))
        · skip
          (first | refine sim_outO0 _ rfl (by simp [N.push_len] at hn ⊢; omega) (by repeat (first | exact mz | apply ms)) | refine sim_outO1 _ (by decide) rfl (by simp [N.push_len] at hn ⊢; omega) (by repeat (first | exact mz | apply ms)))
    · skip
      exact sim_outJO _ rfl rfl (by repeat (first | exact mz | apply ms))
  · skip
    (with_reducible repeat (first | refine sA ?_ | refine sB ?_ | refine sC ?_ | refine sD ?_ | refine sE ?_ | refine sF ?_))
    first | refine sim_op (must_m _ _) (fun _ h => nomatch h) fun x b => ?_ | refine sim_op1 (must_m _ _) (fun _ h => nomatch h) fun x b => ?_
    refine sim_doneM (n := _) (x := r2) (by repeat (first | exact mz | apply ms)) ?_
    (with_reducible repeat (first | refine sA ?_ | refine sB ?_ | refine sC ?_ | refine sD ?_ | refine sE ?_ | refine sF ?_))
    exact sim_ret1 (t := tP) _ rfl (fun F hF => hF _ (by repeat (first | exact mz | apply ms)))
theorem worded_m {R : PRec} (hR : PRecM R) (pb : Nat) (a1 : Tok) : Meets PG (PI pb) (callS F_parser_worded #[.pointer (some (pAt pb)), .agg #[.int .i64 a1.1, .string a1.2.1, .int .i64 a1.2.2.1, .int .i64 a1.2.2.2.1]]) tP (wordedS R a1) NodeF [] := by
  refine c_parser_worded (pAt pb) a1 ?_
  unfold t_parser_worded wordedS
  refine sim_boxF fun br1 => ?_
  first | refine sim_joinFail ?_ ?_ | refine sim_joinU failS ?_ ?_
  · skip
    refine sim_ldF (b1 := .str) _ (by repeat (first | exact mz | apply ms)) (by kernel_rfl) rfl rfl ?_
    refine sim_val (words_m _ _) (fun _ h => nomatch h) ?_
    (with_reducible repeat (first | refine sA ?_ | refine sB ?_ | refine sC ?_ | refine sD ?_ | refine sE ?_ | refine sF ?_))
    (first | refine qA (fun h => ?_) fun h => ?_ | refine qB (fun h => ?_) fun h => ?_ | refine qC (fun h => ?_) fun h => ?_ | refine qD (fun h => ?_) fun h => ?_ | refine qE (fun h => ?_) fun h => ?_) -- ((r3 : Int) != 0)
    · skip
      (with_reducible repeat (first | refine sA ?_ | refine sB ?_ | refine sC ?_ | refine sD ?_ | refine sE ?_ | refine sF ?_))
      first | refine sim_op (next_m _) (fun _ h => nomatch h) fun r4 b => Sim.prop fun h => ?_ | refine sim_op1 (next_m _) (fun _ h => nomatch h) fun r4 b => Sim.prop fun h => ?_
      subst h
      refine sim_draw [] (fun _ h => nomatch h) ?_
      refine sim_ldFq (b1 := .str) _ (by repeat (first | exact mz | apply ms)) (by kernel_rfl) rfl rfl ?_
      refine sim_ldFq (b1 := .int .i64) _ (by repeat (first | exact mz | apply ms)) (by kernel_rfl) rfl rfl ?_
      refine sim_vall (words_m _ _) (fun _ h => nomatch h) ?_
      refine sim_made0l fun r8 => ?_
      (with_reducible repeat (first | refine sA ?_ | refine sB ?_ | refine sC ?_ | refine sD ?_ | refine sE ?_ | refine sF ?_))
      exact sim_ret1 (t := tP) _ rfl (fun F hF => hF _ (by repeat (first | exact mz | apply ms)))
    · skip
      (with_reducible repeat (first | refine sA ?_ | refine sB ?_ | refine sC ?_ | refine sD ?_ | refine sE ?_ | refine sF ?_))
      first | refine sim_op (take_m _ _) (fun _ h => nomatch h) fun r9 b => Sim.prop fun h => ?_ | refine sim_op1 (take_m _ _) (fun _ h => nomatch h) fun r9 b => Sim.prop fun h => ?_
      subst h
      (with_reducible repeat (first | refine sA ?_ | refine sB ?_ | refine sC ?_ | refine sD ?_ | refine sE ?_ | refine sF ?_))
      (first | refine qA (fun h => ?_) fun h => ?_ | refine qB (fun h => ?_) fun h => ?_ | refine qC (fun h => ?_) fun h => ?_ | refine qD (fun h => ?_) fun h => ?_ | refine qE (fun h => ?_) fun h => ?_) -- r9
      · skip
        (with_reducible repeat (first | refine sA ?_ | refine sB ?_ | refine sC ?_ | refine sD ?_ | refine sE ?_ | refine sF ?_))
        first | refine sim_op (now_m _) (fun _ h => nomatch h) fun r10 b => Sim.prop fun h => ?_ | refine sim_op1 (now_m _) (fun _ h => nomatch h) fun r10 b => Sim.prop fun h => ?_
        subst h
        (with_reducible repeat (first | refine sA ?_ | refine sB ?_ | refine sC ?_ | refine sD ?_ | refine sE ?_ | refine sF ?_))
        first | refine sim_op (name_m _) (fun _ h => nomatch h) fun r11 b => Sim.prop fun h => ?_ | refine sim_op1 (name_m _) (fun _ h => nomatch h) fun r11 b => Sim.prop fun h => ?_
        subst h
        refine sim_made0 fun r12 => ?_
        refine sim_joinPb NodeF ?_ fun nx18 x18 => ?_
        · skip
          refine sim_fuelN (fun k x => membersS (Tok.pos r10) k x >>= fun x => argsS R >>= fun a => givenS R >>= fun g => pure (mkN 28 kE 0 (Tok.pos a1) [x, a, g])) R.fuel _ (fun _ => rfl) rfl (by repeat (first | exact mz | apply ms)) fun k n x13 => ?_
          rw [membersS.eq_2]
          (with_reducible repeat (first | refine sA ?_ | refine sB ?_ | refine sC ?_ | refine sD ?_ | refine sE ?_ | refine sF ?_))
          first | refine sim_op (take_m _ _) (fun _ h => nomatch h) fun r14 b => Sim.prop fun h => ?_ | refine sim_op1 (take_m _ _) (fun _ h => nomatch h) fun r14 b => Sim.prop fun h => ?_
          subst h
          (with_reducible repeat (first | refine sA ?_ | refine sB ?_ | refine sC ?_ | refine sD ?_ | refine sE ?_ | refine sF ?_))
          (first | refine qA (fun h => ?_) fun h => ?_ | refine qB (fun h => ?_) fun h => ?_ | refine qC (fun h => ?_) fun h => ?_ | refine qD (fun h => ?_) fun h => ?_ | refine qE (fun h => ?_) fun h => ?_) -- r14
          · skip
            (with_reducible repeat (first | refine sA ?_ | refine sB ?_ | refine sC ?_ | refine sD ?_ | refine sE ?_ | refine sF ?_))
            first | refine sim_op (name_m _) (fun _ h => nomatch h) fun r15 b => Sim.prop fun h => ?_ | refine sim_op1 (name_m _) (fun _ h => nomatch h) fun r15 b => Sim.prop fun h => ?_
            subst h
            refine sim_node [x13] [n] rfl (by decide) (by decide) (by kernel_rfl) (fun F hF => (.cons _ _ _ _ (hF (NodeF n x13) (by repeat (first | exact mz | apply ms))) .nil)) fun r17 => ?_
            (first | refine sim_outN0 _ rfl (by repeat (first | exact mz | apply ms)) | refine sim_outN1 _ (by decide) rfl (by repeat (first | exact mz | apply ms)))
          · skip
            exact sim_outP _ rfl rfl (fun F hF => hF _ (by repeat (first | exact mz | apply ms)))
        · skip
          (with_reducible repeat (first | refine sA ?_ | refine sB ?_ | refine sC ?_ | refine sD ?_ | refine sE ?_ | refine sF ?_))
          first | refine sim_op (args_m hR _) (fun _ h => nomatch h) fun r19 nr19 => ?_ | refine sim_op1 (args_m hR _) (fun _ h => nomatch h) fun r19 nr19 => ?_
          refine sim_draw [] (fun _ h => nomatch h) ?_
          refine sim_ldFq (b1 := .int .i64) _ (by repeat (first | exact mz | apply ms)) (by kernel_rfl) rfl rfl ?_
          (with_reducible repeat (first | refine sA ?_ | refine sB ?_ | refine sC ?_ | refine sD ?_ | refine sE ?_ | refine sF ?_))
          first | refine sim_opl (given_m hR _) (fun _ h => nomatch h) fun r21 nr21 => ?_ | refine sim_opl1 (given_m hR _) (fun _ h => nomatch h) fun r21 nr21 => ?_
          refine sim_nodel [x18, r19, r21] [nx18, nr19, nr21] rfl (by decide) (by decide) (by kernel_rfl) (fun F hF => (.cons _ _ _ _ (hF (NodeF nx18 x18) (by repeat (first | exact mz | apply ms))) (.cons _ _ _ _ (hF (NodeF nr19 r19) (by repeat (first | exact mz | apply ms))) (.cons _ _ _ _ (hF (NodeF nr21 r21) (by repeat (first | exact mz | apply ms))) .nil)))) (fun p hp => by first | exact absurd hp List.not_mem_nil | (simp at hp; simp [hp])) fun r23 => ?_
          (with_reducible repeat (first | refine sA ?_ | refine sB ?_ | refine sC ?_ | refine sD ?_ | refine sE ?_ | refine sF ?_))
          exact sim_ret1 (t := tP) _ rfl (fun F hF => hF _ (by repeat (first | exact mz | apply ms)))
      · skip
        (with_reducible repeat (first | refine sA ?_ | refine sB ?_ | refine sC ?_ | refine sD ?_ | refine sE ?_ | refine sF ?_))
        first | refine sim_op (take_m _ _) (fun _ h => nomatch h) fun r24 b => Sim.prop fun h => ?_ | refine sim_op1 (take_m _ _) (fun _ h => nomatch h) fun r24 b => Sim.prop fun h => ?_
        subst h
        (with_reducible repeat (first | refine sA ?_ | refine sB ?_ | refine sC ?_ | refine sD ?_ | refine sE ?_ | refine sF ?_))
        (first | refine qA (fun h => ?_) fun h => ?_ | refine qB (fun h => ?_) fun h => ?_ | refine qC (fun h => ?_) fun h => ?_ | refine qD (fun h => ?_) fun h => ?_ | refine qE (fun h => ?_) fun h => ?_) -- r24
        · skip
          (with_reducible repeat (first | refine sA ?_ | refine sB ?_ | refine sC ?_ | refine sD ?_ | refine sE ?_ | refine sF ?_))
          first | refine sim_op (take_m _ _) (fun _ h => nomatch h) fun r25 b => Sim.prop fun h => ?_ | refine sim_op1 (take_m _ _) (fun _ h => nomatch h) fun r25 b => Sim.prop fun h => ?_
          subst h
          (with_reducible repeat (first | refine sA ?_ | refine sB ?_ | refine sC ?_ | refine sD ?_ | refine sE ?_ | refine sF ?_))
          (first | refine qA (fun h => ?_) fun h => ?_ | refine qB (fun h => ?_) fun h => ?_ | refine qC (fun h => ?_) fun h => ?_ | refine qD (fun h => ?_) fun h => ?_ | refine qE (fun h => ?_) fun h => ?_) -- r25
          · skip
            refine sim_draw [] (fun _ h => nomatch h) ?_
            refine sim_ldFq (b1 := .int .i64) _ (by repeat (first | exact mz | apply ms)) (by kernel_rfl) rfl rfl ?_
            (with_reducible repeat (first | refine sA ?_ | refine sB ?_ | refine sC ?_ | refine sD ?_ | refine sE ?_ | refine sF ?_))
            first | refine sim_opl (name_m _) (fun _ h => nomatch h) fun r27 b => Sim.prop fun h => ?_ | refine sim_opl1 (name_m _) (fun _ h => nomatch h) fun r27 b => Sim.prop fun h => ?_
            subst h
            refine sim_made0l fun r28 => ?_
            (with_reducible repeat (first | refine sA ?_ | refine sB ?_ | refine sC ?_ | refine sD ?_ | refine sE ?_ | refine sF ?_))
            exact sim_ret1 (t := tP) _ rfl (fun F hF => hF _ (by repeat (first | exact mz | apply ms)))
          · skip
            refine sim_draw [] (fun _ h => nomatch h) ?_
            refine sim_ldFq (b1 := .int .i64) _ (by repeat (first | exact mz | apply ms)) (by kernel_rfl) rfl rfl ?_
            (with_reducible repeat (first | refine sA ?_ | refine sB ?_ | refine sC ?_ | refine sD ?_ | refine sE ?_ | refine sF ?_))
            first | refine sim_opl (given_m hR _) (fun _ h => nomatch h) fun r30 nr30 => ?_ | refine sim_opl1 (given_m hR _) (fun _ h => nomatch h) fun r30 nr30 => ?_
            refine sim_nodel [r30] [nr30] rfl (by decide) (by decide) (by kernel_rfl) (fun F hF => (.cons _ _ _ _ (hF (NodeF nr30 r30) (by repeat (first | exact mz | apply ms))) .nil)) (fun p hp => by first | exact absurd hp List.not_mem_nil | (simp at hp; simp [hp])) fun r32 => ?_
            (with_reducible repeat (first | refine sA ?_ | refine sB ?_ | refine sC ?_ | refine sD ?_ | refine sE ?_ | refine sF ?_))
            exact sim_ret1 (t := tP) _ rfl (fun F hF => hF _ (by repeat (first | exact mz | apply ms)))
        · skip
          exact sim_outU rfl rfl
  · skip
    exact sim_fails (β1 := Unit) (Rel1 := fun _ _ _ => Fact.prop True) (fail_m _) (fun _ h => nomatch h) (by first | exact errs_fail | exact errs_failb _)
theorem primary_m {R : PRec} (hR : PRecM R) (pb : Nat) : Meets PG (PI pb) (callS F_parser_primary #[.pointer (some (pAt pb))]) tP (primaryS R) NodeF [] := by
  refine c_parser_primary (pAt pb) ?_
  unfold t_parser_primary primaryS
  (with_reducible repeat (first | refine sA ?_ | refine sB ?_ | refine sC ?_ | refine sD ?_ | refine sE ?_ | refine sF ?_))
  refine sim_op (now_mT _) (fun _ h => nomatch h) fun r1 b => Sim.both (Sim.prop fun hnum => Sim.prop fun h => ?_)
  subst h
  refine sim_varF (c := true) (z := [.int .i64 0, .string kE, .int .i64 0, .int .i64 0]) (by kernel_rfl) (by kernel_rfl) rfl (by simp [Value.cells, Value.oneCell']) fun br2 => ?_
  refine sim_ldF (b1 := .int .i64) _ (by repeat (first | exact mz | apply ms)) (by kernel_rfl) rfl rfl ?_
  (with_reducible repeat (first | refine sA ?_ | refine sB ?_ | refine sC ?_ | refine sD ?_ | refine sE ?_ | refine sF ?_))
  (first | refine qA (fun h => ?_) fun h => ?_ | refine qB (fun h => ?_) fun h => ?_ | refine qC (fun h => ?_) fun h => ?_ | refine qD (fun h => ?_) fun h => ?_ | refine qE (fun h => ?_) fun h => ?_) -- ((r4 : Int) == 3)
  · have hk : Tok.kind r1 = 3 := by simpa [Tok.kind] using h
    (with_reducible repeat (first | refine sA ?_ | refine sB ?_ | refine sC ?_ | refine sD ?_ | refine sE ?_ | refine sF ?_))
    first | refine sim_op (next_m _) (fun _ h => nomatch h) fun r5 b => Sim.prop fun h => ?_ | refine sim_op1 (next_m _) (fun _ h => nomatch h) fun r5 b => Sim.prop fun h => ?_
    subst h
    refine sim_draw [] (fun _ h => nomatch h) ?_
    refine sim_ldFq (b1 := .str) _ (by repeat (first | exact mz | apply ms)) (by kernel_rfl) rfl rfl ?_
    refine sim_ldFq (b1 := .int .i64) _ (by repeat (first | exact mz | apply ms)) (by kernel_rfl) rfl rfl ?_
    refine sim_vall (hR.num _ _ (hnum.1 hk).1 (hnum.1 hk).2) (fun _ h => nomatch h) ?_
    refine sim_made0l fun r9 => ?_
    (with_reducible repeat (first | refine sA ?_ | refine sB ?_ | refine sC ?_ | refine sD ?_ | refine sE ?_ | refine sF ?_))
    exact sim_ret1 (t := tP) _ rfl (fun F hF => hF _ (by repeat (first | exact mz | apply ms)))
  · skip
    (with_reducible repeat (first | refine sA ?_ | refine sB ?_ | refine sC ?_ | refine sD ?_ | refine sE ?_ | refine sF ?_))
    (first | refine qA (fun h => ?_) fun h => ?_ | refine qB (fun h => ?_) fun h => ?_ | refine qC (fun h => ?_) fun h => ?_ | refine qD (fun h => ?_) fun h => ?_ | refine qE (fun h => ?_) fun h => ?_) -- ((r4 : Int) == 4)
    · skip
      (with_reducible repeat (first | refine sA ?_ | refine sB ?_ | refine sC ?_ | refine sD ?_ | refine sE ?_ | refine sF ?_))
      first | refine sim_op (next_m _) (fun _ h => nomatch h) fun r10 b => Sim.prop fun h => ?_ | refine sim_op1 (next_m _) (fun _ h => nomatch h) fun r10 b => Sim.prop fun h => ?_
      subst h
      refine sim_ldF (b1 := .str) _ (by repeat (first | exact mz | apply ms)) (by kernel_rfl) rfl rfl ?_
      refine sim_ldF (b1 := .int .i64) _ (by repeat (first | exact mz | apply ms)) (by kernel_rfl) rfl rfl ?_
      refine sim_made0 fun r13 => ?_
      (with_reducible repeat (first | refine sA ?_ | refine sB ?_ | refine sC ?_ | refine sD ?_ | refine sE ?_ | refine sF ?_))
      exact sim_ret1 (t := tP) _ rfl (fun F hF => hF _ (by repeat (first | exact mz | apply ms)))
    · skip
      first | refine sim_joinBb ?_ fun x14 => ?_ | refine sim_joinBc ?_ fun x14 => ?_
      · skip
        (with_reducible repeat (first | refine sA ?_ | refine sB ?_ | refine sC ?_ | refine sD ?_ | refine sE ?_ | refine sF ?_))
        (first | refine qA (fun h => ?_) fun h => ?_ | refine qB (fun h => ?_) fun h => ?_ | refine qC (fun h => ?_) fun h => ?_ | refine qD (fun h => ?_) fun h => ?_ | refine qE (fun h => ?_) fun h => ?_) -- ((r4 : Int) == 5)
        · skip
          exact sim_outB _ rfl (by first | rfl | (simp only [Tok.kind] at *; simp_all))
        · skip
          exact sim_outB _ rfl (by show cond (Tok.kind r1 == 5 || Tok.kind r1 == 6) _ _ = _; rw [show (Tok.kind r1 == 5) = false from h]; rfl)
      · skip
        (with_reducible repeat (first | refine sA ?_ | refine sB ?_ | refine sC ?_ | refine sD ?_ | refine sE ?_ | refine sF ?_))
        (first | refine qA (fun h => ?_) fun h => ?_ | refine qB (fun h => ?_) fun h => ?_ | refine qC (fun h => ?_) fun h => ?_ | refine qD (fun h => ?_) fun h => ?_ | refine qE (fun h => ?_) fun h => ?_) -- x14.1
        · skip
          (with_reducible repeat (first | refine sA ?_ | refine sB ?_ | refine sC ?_ | refine sD ?_ | refine sE ?_ | refine sF ?_))
          first | refine sim_op (template_m hR _) (fun _ h => nomatch h) fun r15 nr15 => ?_ | refine sim_op1 (template_m hR _) (fun _ h => nomatch h) fun r15 nr15 => ?_
          (with_reducible repeat (first | refine sA ?_ | refine sB ?_ | refine sC ?_ | refine sD ?_ | refine sE ?_ | refine sF ?_))
          exact sim_ret1 (t := tP) _ rfl (fun F hF => hF _ (by repeat (first | exact mz | apply ms)))
        · skip
          (with_reducible repeat (first | refine sA ?_ | refine sB ?_ | refine sC ?_ | refine sD ?_ | refine sE ?_ | refine sF ?_))
          (first | refine qA (fun h => ?_) fun h => ?_ | refine qB (fun h => ?_) fun h => ?_ | refine qC (fun h => ?_) fun h => ?_ | refine qD (fun h => ?_) fun h => ?_ | refine qE (fun h => ?_) fun h => ?_) -- ((r4 : Int) == 1)
          · skip
            (with_reducible repeat (first | refine sA ?_ | refine sB ?_ | refine sC ?_ | refine sD ?_ | refine sE ?_ | refine sF ?_))
            first | refine sim_op (next_m _) (fun _ h => nomatch h) fun r16 b => Sim.prop fun h => ?_ | refine sim_op1 (next_m _) (fun _ h => nomatch h) fun r16 b => Sim.prop fun h => ?_
            subst h
            refine sim_ldF (b1 := .str) _ (by repeat (first | exact mz | apply ms)) (by kernel_rfl) rfl rfl ?_
            refine sim_ldF (b1 := .int .i64) _ (by repeat (first | exact mz | apply ms)) (by kernel_rfl) rfl rfl ?_
            refine sim_made0 fun r19 => ?_
            (with_reducible repeat (first | refine sA ?_ | refine sB ?_ | refine sC ?_ | refine sD ?_ | refine sE ?_ | refine sF ?_))
            exact sim_ret1 (t := tP) _ rfl (fun F hF => hF _ (by repeat (first | exact mz | apply ms)))
          · skip
            (with_reducible repeat (first | refine sA ?_ | refine sB ?_ | refine sC ?_ | refine sD ?_ | refine sE ?_ | refine sF ?_))
            (first | refine qA (fun h => ?_) fun h => ?_ | refine qB (fun h => ?_) fun h => ?_ | refine qC (fun h => ?_) fun h => ?_ | refine qD (fun h => ?_) fun h => ?_ | refine qE (fun h => ?_) fun h => ?_) -- ((r4 : Int) == 2)
            · skip
              refine sim_ldFA (bs := bsTok) (_, _, _, _, ()) (by repeat (first | exact mz | apply ms)) (by kernel_rfl) rfl rfl ?_
              (with_reducible repeat (first | refine sA ?_ | refine sB ?_ | refine sC ?_ | refine sD ?_ | refine sE ?_ | refine sF ?_))
              first | refine sim_op (worded_m hR _ _) (fun _ h => nomatch h) fun r21 nr21 => ?_ | refine sim_op1 (worded_m hR _ _) (fun _ h => nomatch h) fun r21 nr21 => ?_
              (with_reducible repeat (first | refine sA ?_ | refine sB ?_ | refine sC ?_ | refine sD ?_ | refine sE ?_ | refine sF ?_))
              exact sim_ret1 (t := tP) _ rfl (fun F hF => hF _ (by repeat (first | exact mz | apply ms)))
            · skip
              (with_reducible repeat (first | refine sA ?_ | refine sB ?_ | refine sC ?_ | refine sD ?_ | refine sE ?_ | refine sF ?_))
              first | refine sim_op (take_m _ _) (fun _ h => nomatch h) fun r22 b => Sim.prop fun h => ?_ | refine sim_op1 (take_m _ _) (fun _ h => nomatch h) fun r22 b => Sim.prop fun h => ?_
              subst h
              (with_reducible repeat (first | refine sA ?_ | refine sB ?_ | refine sC ?_ | refine sD ?_ | refine sE ?_ | refine sF ?_))
              (first | refine qA (fun h => ?_) fun h => ?_ | refine qB (fun h => ?_) fun h => ?_ | refine qC (fun h => ?_) fun h => ?_ | refine qD (fun h => ?_) fun h => ?_ | refine qE (fun h => ?_) fun h => ?_) -- r22
              · skip
                (with_reducible repeat (first | refine sA ?_ | refine sB ?_ | refine sC ?_ | refine sD ?_ | refine sE ?_ | refine sF ?_))
                first | refine sim_op (hR.expr _) (fun _ h => nomatch h) fun r23 nr23 => ?_ | refine sim_op1 (hR.expr _) (fun _ h => nomatch h) fun r23 nr23 => ?_
                (with_reducible repeat (first | refine sA ?_ | refine sB ?_ | refine sC ?_ | refine sD ?_ | refine sE ?_ | refine sF ?_))
                first | refine sim_op (must_m _ _) (fun _ h => nomatch h) fun x b => ?_ | refine sim_op1 (must_m _ _) (fun _ h => nomatch h) fun x b => ?_
                (with_reducible repeat (first | refine sA ?_ | refine sB ?_ | refine sC ?_ | refine sD ?_ | refine sE ?_ | refine sF ?_))
                exact sim_ret1 (t := tP) _ rfl (fun F hF => hF _ (by repeat (first | exact mz | apply ms)))
              · skip
                (with_reducible repeat (first | refine sA ?_ | refine sB ?_ | refine sC ?_ | refine sD ?_ | refine sE ?_ | refine sF ?_))
                first | refine sim_op (take_m _ _) (fun _ h => nomatch h) fun r25 b => Sim.prop fun h => ?_ | refine sim_op1 (take_m _ _) (fun _ h => nomatch h) fun r25 b => Sim.prop fun h => ?_
                subst h
                (with_reducible repeat (first | refine sA ?_ | refine sB ?_ | refine sC ?_ | refine sD ?_ | refine sE ?_ | refine sF ?_))
                (first | refine qA (fun h => ?_) fun h => ?_ | refine qB (fun h => ?_) fun h => ?_ | refine qC (fun h => ?_) fun h => ?_ | refine qD (fun h => ?_) fun h => ?_ | refine qE (fun h => ?_) fun h => ?_) -- r25
                · skip
                  refine sim_ldF (b1 := .int .i64) _ (by repeat (first | exact mz | apply ms)) (by kernel_rfl) rfl rfl ?_
                  refine sim_own0 fun r27 Kr27 => ?_
                  (with_reducible repeat (first | refine sA ?_ | refine sB ?_ | refine sC ?_ | refine sD ?_ | refine sE ?_ | refine sF ?_))
                  first | refine sim_op (is_m _ _) (fun _ h => nomatch h) fun r28 b => Sim.prop fun h => ?_ | refine sim_op1 (is_m _ _) (fun _ h => nomatch h) fun r28 b => Sim.prop fun h => ?_
                  subst h
                  (with_reducible repeat (first | refine sA ?_ | refine sB ?_ | refine sC ?_ | refine sD ?_ | refine sE ?_ | refine sF ?_))
                  (first | refine qA (fun h => ?_) fun h => ?_ | refine qB (fun h => ?_) fun h => ?_ | refine qC (fun h => ?_) fun h => ?_ | refine qD (fun h => ?_) fun h => ?_ | refine qE (fun h => ?_) fun h => ?_) -- (!r28)
                  · skip
                    (with_reducible repeat (first | refine sA ?_ | refine sB ?_ | refine sC ?_ | refine sD ?_ | refine sE ?_ | refine sF ?_))
                    first | refine sim_opO (list_m pb _ _ R.fuel (Nat.le_trans hR.fuel (by decide)) (MeetsO.congr (run_callv1 _ _) (hR.expr _))) (fun _ h => nomatch h) fun r29 nr29 Kr29 => ?_ | refine sim_op1O (list_m pb _ _ R.fuel (Nat.le_trans hR.fuel (by decide)) (MeetsO.congr (run_callv1 _ _) (hR.expr _))) (fun _ h => nomatch h) fun r29 nr29 Kr29 => ?_
                    refine sim_doneM (by repeat (first | exact mz | apply ms)) ?_
                    refine sim_takeKids (n := mkN 19 kE 0 (Tok.pos r1) []) (by repeat (first | exact mz | apply ms)) (by repeat (first | exact mz | apply ms)) ?_
                    (with_reducible repeat (first | refine sA ?_ | refine sB ?_ | refine sC ?_ | refine sD ?_ | refine sE ?_ | refine sF ?_))
                    first | refine sim_op (must_m _ _) (fun _ h => nomatch h) fun x b => ?_ | refine sim_op1 (must_m _ _) (fun _ h => nomatch h) fun x b => ?_
                    skip
                    (with_reducible repeat (first | refine sA ?_ | refine sB ?_ | refine sC ?_ | refine sD ?_ | refine sE ?_ | refine sF ?_))
                    exact sim_ret1 (t := tP) _ rfl (fun F hF => hF _ (by repeat (first | exact mz | apply ms)))
                  · skip
                    (with_reducible repeat (first | refine sA ?_ | refine sB ?_ | refine sC ?_ | refine sD ?_ | refine sE ?_ | refine sF ?_))
                    first | refine sim_op (must_m _ _) (fun _ h => nomatch h) fun x b => ?_ | refine sim_op1 (must_m _ _) (fun _ h => nomatch h) fun x b => ?_
                    refine sim_doneM (n := _) (x := r27) (by repeat (first | exact mz | apply ms)) ?_
                    (with_reducible repeat (first | refine sA ?_ | refine sB ?_ | refine sC ?_ | refine sD ?_ | refine sE ?_ | refine sF ?_))
                    exact sim_ret1 (t := tP) _ rfl (fun F hF => hF _ (by repeat (first | exact mz | apply ms)))
                · skip
                  (with_reducible repeat (first | refine sA ?_ | refine sB ?_ | refine sC ?_ | refine sD ?_ | refine sE ?_ | refine sF ?_))
                  first | refine sim_op (object_m hR _) (fun _ h => nomatch h) fun r36 nr36 => ?_ | refine sim_op1 (object_m hR _) (fun _ h => nomatch h) fun r36 nr36 => ?_
                  (with_reducible repeat (first | refine sA ?_ | refine sB ?_ | refine sC ?_ | refine sD ?_ | refine sE ?_ | refine sF ?_))
                  exact sim_ret1 (t := tP) _ rfl (fun F hF => hF _ (by repeat (first | exact mz | apply ms)))
theorem postfix_m {R : PRec} (hR : PRecM R) (pb : Nat) : Meets PG (PI pb) (callS F_parser_postfix #[.pointer (some (pAt pb))]) tP (postfixS R) NodeF [] := by
  refine c_parser_postfix (pAt pb) ?_
  unfold t_parser_postfix postfixS
  (with_reducible repeat (first | refine sA ?_ | refine sB ?_ | refine sC ?_ | refine sD ?_ | refine sE ?_ | refine sF ?_))
  first | refine sim_op (now_m _) (fun _ h => nomatch h) fun r1 b => Sim.prop fun h => ?_ | refine sim_op1 (now_m _) (fun _ h => nomatch h) fun r1 b => Sim.prop fun h => ?_
  subst h
  (with_reducible repeat (first | refine sA ?_ | refine sB ?_ | refine sC ?_ | refine sD ?_ | refine sE ?_ | refine sF ?_))
  first | refine sim_op (primary_m hR _) (fun _ h => nomatch h) fun r2 nr2 => ?_ | refine sim_op1 (primary_m hR _) (fun _ h => nomatch h) fun r2 nr2 => ?_
  refine sim_fuelN (partsS R (Tok.pos r1)) R.fuel _ (fun _ => rfl) rfl (by repeat (first | exact mz | apply ms)) fun k n x3 => ?_
  (with_reducible repeat (first | refine sA ?_ | refine sB ?_ | refine sC ?_ | refine sD ?_ | refine sE ?_ | refine sF ?_))
  first | refine sim_op (take_m _ _) (fun _ h => nomatch h) fun r4 b => Sim.prop fun h => ?_ | refine sim_op1 (take_m _ _) (fun _ h => nomatch h) fun r4 b => Sim.prop fun h => ?_
  subst h
  (with_reducible repeat (first | refine sA ?_ | refine sB ?_ | refine sC ?_ | refine sD ?_ | refine sE ?_ | refine sF ?_))
  (first | refine qA (fun h => ?_) fun h => ?_ | refine qB (fun h => ?_) fun h => ?_ | refine qC (fun h => ?_) fun h => ?_ | refine qD (fun h => ?_) fun h => ?_ | refine qE (fun h => ?_) fun h => ?_) -- r4
  · skip
    (with_reducible repeat (first | refine sA ?_ | refine sB ?_ | refine sC ?_ | refine sD ?_ | refine sE ?_ | refine sF ?_))
    first | refine sim_op (name_m _) (fun _ h => nomatch h) fun r5 b => Sim.prop fun h => ?_ | refine sim_op1 (name_m _) (fun _ h => nomatch h) fun r5 b => Sim.prop fun h => ?_
    subst h
    refine sim_node [x3] [n] rfl (by decide) (by decide) (by kernel_rfl) (fun F hF => (.cons _ _ _ _ (hF (NodeF n x3) (by repeat (first | exact mz | apply ms))) .nil)) fun r7 => ?_
    (first | refine sim_outN0 _ rfl (by repeat (first | exact mz | apply ms)) | refine sim_outN1 _ (by decide) rfl (by repeat (first | exact mz | apply ms)))
  · skip
    (with_reducible repeat (first | refine sA ?_ | refine sB ?_ | refine sC ?_ | refine sD ?_ | refine sE ?_ | refine sF ?_))
    first | refine sim_op (take_m _ _) (fun _ h => nomatch h) fun r8 b => Sim.prop fun h => ?_ | refine sim_op1 (take_m _ _) (fun _ h => nomatch h) fun r8 b => Sim.prop fun h => ?_
    subst h
    (with_reducible repeat (first | refine sA ?_ | refine sB ?_ | refine sC ?_ | refine sD ?_ | refine sE ?_ | refine sF ?_))
    (first | refine qA (fun h => ?_) fun h => ?_ | refine qB (fun h => ?_) fun h => ?_ | refine qC (fun h => ?_) fun h => ?_ | refine qD (fun h => ?_) fun h => ?_ | refine qE (fun h => ?_) fun h => ?_) -- r8
    · skip
      (with_reducible repeat (first | refine sA ?_ | refine sB ?_ | refine sC ?_ | refine sD ?_ | refine sE ?_ | refine sF ?_))
      first | refine sim_op (hR.expr _) (fun _ h => nomatch h) fun r9 nr9 => ?_ | refine sim_op1 (hR.expr _) (fun _ h => nomatch h) fun r9 nr9 => ?_
      (with_reducible repeat (first | refine sA ?_ | refine sB ?_ | refine sC ?_ | refine sD ?_ | refine sE ?_ | refine sF ?_))
      first | refine sim_op (must_m _ _) (fun _ h => nomatch h) fun x b => ?_ | refine sim_op1 (must_m _ _) (fun _ h => nomatch h) fun x b => ?_
      refine sim_node [x3, r9] [n, nr9] rfl (by decide) (by decide) (by kernel_rfl) (fun F hF => (.cons _ _ _ _ (hF (NodeF n x3) (by repeat (first | exact mz | apply ms))) (.cons _ _ _ _ (hF (NodeF nr9 r9) (by repeat (first | exact mz | apply ms))) .nil))) fun r12 => ?_
      (first | refine sim_outN0 _ rfl (by repeat (first | exact mz | apply ms)) | refine sim_outN1 _ (by decide) rfl (by repeat (first | exact mz | apply ms)))
    · skip
      (with_reducible repeat (first | refine sA ?_ | refine sB ?_ | refine sC ?_ | refine sD ?_ | refine sE ?_ | refine sF ?_))
      first | refine sim_op (is_m _ _) (fun _ h => nomatch h) fun r13 b => Sim.prop fun h => ?_ | refine sim_op1 (is_m _ _) (fun _ h => nomatch h) fun r13 b => Sim.prop fun h => ?_
      subst h
      first | refine sim_joinBb ?_ fun x16 => ?_ | refine sim_joinBc ?_ fun x16 => ?_
      · skip
        (with_reducible repeat (first | refine sA ?_ | refine sB ?_ | refine sC ?_ | refine sD ?_ | refine sE ?_ | refine sF ?_))
        (first | refine qA (fun h => ?_) fun h => ?_ | refine qB (fun h => ?_) fun h => ?_ | refine qC (fun h => ?_) fun h => ?_ | refine qD (fun h => ?_) fun h => ?_ | refine qE (fun h => ?_) fun h => ?_) -- r13
        · skip
          exact sim_outB _ rfl (by first | rfl | (simp only [Tok.kind] at *; simp_all))
        · skip
          (with_reducible repeat (first | refine sA ?_ | refine sB ?_ | refine sC ?_ | refine sD ?_ | refine sE ?_ | refine sF ?_))
          first | refine sim_op (is_m _ _) (fun _ h => nomatch h) fun r14 b => Sim.prop fun h => ?_ | refine sim_op1 (is_m _ _) (fun _ h => nomatch h) fun r14 b => Sim.prop fun h => ?_
          subst h
          (with_reducible repeat (first | refine sA ?_ | refine sB ?_ | refine sC ?_ | refine sD ?_ | refine sE ?_ | refine sF ?_))
          (first | refine qA (fun h => ?_) fun h => ?_ | refine qB (fun h => ?_) fun h => ?_ | refine qC (fun h => ?_) fun h => ?_ | refine qD (fun h => ?_) fun h => ?_ | refine qE (fun h => ?_) fun h => ?_) -- r14
          · skip
            (with_reducible repeat (first | refine sA ?_ | refine sB ?_ | refine sC ?_ | refine sD ?_ | refine sE ?_ | refine sF ?_))
            first | refine sim_op (calls_m hR _) (fun _ h => nomatch h) fun r15 b => Sim.prop fun h => ?_ | refine sim_op1 (calls_m hR _) (fun _ h => nomatch h) fun r15 b => Sim.prop fun h => ?_
            subst h
            exact sim_outB _ rfl (by first | rfl | (simp only [Tok.kind] at *; simp_all))
          · skip
            exact sim_outB _ rfl (by first | rfl | (simp only [Tok.kind] at *; simp_all))
      · skip
        (with_reducible repeat (first | refine sA ?_ | refine sB ?_ | refine sC ?_ | refine sD ?_ | refine sE ?_ | refine sF ?_))
        (first | refine qA (fun h => ?_) fun h => ?_ | refine qB (fun h => ?_) fun h => ?_ | refine qC (fun h => ?_) fun h => ?_ | refine qD (fun h => ?_) fun h => ?_ | refine qE (fun h => ?_) fun h => ?_) -- x16.1
        · skip
          (with_reducible repeat (first | refine sA ?_ | refine sB ?_ | refine sC ?_ | refine sD ?_ | refine sE ?_ | refine sF ?_))
          first | refine sim_op (args_m hR _) (fun _ h => nomatch h) fun r17 nr17 => ?_ | refine sim_op1 (args_m hR _) (fun _ h => nomatch h) fun r17 nr17 => ?_
          (with_reducible repeat (first | refine sA ?_ | refine sB ?_ | refine sC ?_ | refine sD ?_ | refine sE ?_ | refine sF ?_))
          first | refine sim_op (given_m hR _) (fun _ h => nomatch h) fun r18 nr18 => ?_ | refine sim_op1 (given_m hR _) (fun _ h => nomatch h) fun r18 nr18 => ?_
          refine sim_node [x3, r17, r18] [n, nr17, nr18] rfl (by decide) (by decide) (by kernel_rfl) (fun F hF => (.cons _ _ _ _ (hF (NodeF n x3) (by repeat (first | exact mz | apply ms))) (.cons _ _ _ _ (hF (NodeF nr17 r17) (by repeat (first | exact mz | apply ms))) (.cons _ _ _ _ (hF (NodeF nr18 r18) (by repeat (first | exact mz | apply ms))) .nil)))) fun r20 => ?_
          (first | refine sim_outN0 _ rfl (by repeat (first | exact mz | apply ms)) | refine sim_outN1 _ (by decide) rfl (by repeat (first | exact mz | apply ms)))
        · skip
          (with_reducible repeat (first | refine sA ?_ | refine sB ?_ | refine sC ?_ | refine sD ?_ | refine sE ?_ | refine sF ?_))
          first | refine sim_op (take_m _ _) (fun _ h => nomatch h) fun r21 b => Sim.prop fun h => ?_ | refine sim_op1 (take_m _ _) (fun _ h => nomatch h) fun r21 b => Sim.prop fun h => ?_
          subst h
          (with_reducible repeat (first | refine sA ?_ | refine sB ?_ | refine sC ?_ | refine sD ?_ | refine sE ?_ | refine sF ?_))
          (first | refine qA (fun h => ?_) fun h => ?_ | refine qB (fun h => ?_) fun h => ?_ | refine qC (fun h => ?_) fun h => ?_ | refine qD (fun h => ?_) fun h => ?_ | refine qE (fun h => ?_) fun h => ?_) -- r21
          · skip
            refine sim_node [x3] [n] rfl (by decide) (by decide) (by kernel_rfl) (fun F hF => (.cons _ _ _ _ (hF (NodeF n x3) (by repeat (first | exact mz | apply ms))) .nil)) fun r23 => ?_
            (first | refine sim_outN0 _ rfl (by repeat (first | exact mz | apply ms)) | refine sim_outN1 _ (by decide) rfl (by repeat (first | exact mz | apply ms)))
          · skip
            (with_reducible repeat (first | refine sA ?_ | refine sB ?_ | refine sC ?_ | refine sD ?_ | refine sE ?_ | refine sF ?_))
            exact sim_ret1 (t := tP) _ rfl (fun F hF => hF _ (by repeat (first | exact mz | apply ms)))
theorem unary_m {R : PRec} (hR : PRecM R) (pb : Nat) : Meets PG (PI pb) (callS F_parser_unary #[.pointer (some (pAt pb))]) tP (unaryS R) NodeF [] := by
  refine c_parser_unary (pAt pb) ?_
  unfold t_parser_unary unaryS
  (with_reducible repeat (first | refine sA ?_ | refine sB ?_ | refine sC ?_ | refine sD ?_ | refine sE ?_ | refine sF ?_))
  first | refine sim_op (now_m _) (fun _ h => nomatch h) fun r1 b => Sim.prop fun h => ?_ | refine sim_op1 (now_m _) (fun _ h => nomatch h) fun r1 b => Sim.prop fun h => ?_
  subst h
  refine sim_varF (c := true) (z := [.int .i64 0, .string kE, .int .i64 0, .int .i64 0]) (by kernel_rfl) (by kernel_rfl) rfl (by simp [Value.cells, Value.oneCell']) fun br2 => ?_
  (with_reducible repeat (first | refine sA ?_ | refine sB ?_ | refine sC ?_ | refine sD ?_ | refine sE ?_ | refine sF ?_))
  first | refine sim_op (take_m _ _) (fun _ h => nomatch h) fun r4 b => Sim.prop fun h => ?_ | refine sim_op1 (take_m _ _) (fun _ h => nomatch h) fun r4 b => Sim.prop fun h => ?_
  subst h
  first | refine sim_joinBb ?_ fun x8 => ?_ | refine sim_joinBc ?_ fun x8 => ?_
  · skip
    (with_reducible repeat (first | refine sA ?_ | refine sB ?_ | refine sC ?_ | refine sD ?_ | refine sE ?_ | refine sF ?_))
    (first | refine qA (fun h => ?_) fun h => ?_ | refine qB (fun h => ?_) fun h => ?_ | refine qC (fun h => ?_) fun h => ?_ | refine qD (fun h => ?_) fun h => ?_ | refine qE (fun h => ?_) fun h => ?_) -- r4
    · skip
      exact sim_outB _ rfl (by first | rfl | (simp only [Tok.kind] at *; simp_all))
    · skip
      (with_reducible repeat (first | refine sA ?_ | refine sB ?_ | refine sC ?_ | refine sD ?_ | refine sE ?_ | refine sF ?_))
      first | refine sim_op (take_m _ _) (fun _ h => nomatch h) fun r5 b => Sim.prop fun h => ?_ | refine sim_op1 (take_m _ _) (fun _ h => nomatch h) fun r5 b => Sim.prop fun h => ?_
      subst h
      (with_reducible repeat (first | refine sA ?_ | refine sB ?_ | refine sC ?_ | refine sD ?_ | refine sE ?_ | refine sF ?_))
      (first | refine qA (fun h => ?_) fun h => ?_ | refine qB (fun h => ?_) fun h => ?_ | refine qC (fun h => ?_) fun h => ?_ | refine qD (fun h => ?_) fun h => ?_ | refine qE (fun h => ?_) fun h => ?_) -- r5
      · skip
        exact sim_outB _ rfl (by first | rfl | (simp only [Tok.kind] at *; simp_all))
      · skip
        (with_reducible repeat (first | refine sA ?_ | refine sB ?_ | refine sC ?_ | refine sD ?_ | refine sE ?_ | refine sF ?_))
        first | refine sim_op (take_m _ _) (fun _ h => nomatch h) fun r6 b => Sim.prop fun h => ?_ | refine sim_op1 (take_m _ _) (fun _ h => nomatch h) fun r6 b => Sim.prop fun h => ?_
        subst h
        (with_reducible repeat (first | refine sA ?_ | refine sB ?_ | refine sC ?_ | refine sD ?_ | refine sE ?_ | refine sF ?_))
        (first | refine qA (fun h => ?_) fun h => ?_ | refine qB (fun h => ?_) fun h => ?_ | refine qC (fun h => ?_) fun h => ?_ | refine qD (fun h => ?_) fun h => ?_ | refine qE (fun h => ?_) fun h => ?_) -- r6
        · skip
          exact sim_outB _ rfl (by first | rfl | (simp only [Tok.kind] at *; simp_all))
        · skip
          (with_reducible repeat (first | refine sA ?_ | refine sB ?_ | refine sC ?_ | refine sD ?_ | refine sE ?_ | refine sF ?_))
          first | refine sim_op (take_m _ _) (fun _ h => nomatch h) fun r7 b => Sim.prop fun h => ?_ | refine sim_op1 (take_m _ _) (fun _ h => nomatch h) fun r7 b => Sim.prop fun h => ?_
          subst h
          exact sim_outB _ rfl (by first | rfl | (simp only [Tok.kind] at *; simp_all))
  · skip
    (with_reducible repeat (first | refine sA ?_ | refine sB ?_ | refine sC ?_ | refine sD ?_ | refine sE ?_ | refine sF ?_))
    (first | refine qA (fun h => ?_) fun h => ?_ | refine qB (fun h => ?_) fun h => ?_ | refine qC (fun h => ?_) fun h => ?_ | refine qD (fun h => ?_) fun h => ?_ | refine qE (fun h => ?_) fun h => ?_) -- x8.1
    · skip
      refine sim_draw [] (fun _ h => nomatch h) ?_
      refine sim_ldFq (b1 := .str) _ (by repeat (first | exact mz | apply ms)) (by kernel_rfl) rfl rfl ?_
      refine sim_ldFq (b1 := .int .i64) _ (by repeat (first | exact mz | apply ms)) (by kernel_rfl) rfl rfl ?_
      (with_reducible repeat (first | refine sA ?_ | refine sB ?_ | refine sC ?_ | refine sD ?_ | refine sE ?_ | refine sF ?_))
      first | refine sim_opl (hR.unary _) (fun _ h => nomatch h) fun r11 nr11 => ?_ | refine sim_opl1 (hR.unary _) (fun _ h => nomatch h) fun r11 nr11 => ?_
      refine sim_nodel [r11] [nr11] rfl (by decide) (by decide) (by kernel_rfl) (fun F hF => (.cons _ _ _ _ (hF (NodeF nr11 r11) (by repeat (first | exact mz | apply ms))) .nil)) (fun p hp => by first | exact absurd hp List.not_mem_nil | (simp at hp; simp [hp])) fun r13 => ?_
      (with_reducible repeat (first | refine sA ?_ | refine sB ?_ | refine sC ?_ | refine sD ?_ | refine sE ?_ | refine sF ?_))
      exact sim_ret1 (t := tP) _ rfl (fun F hF => hF _ (by repeat (first | exact mz | apply ms)))
    · skip
      (with_reducible repeat (first | refine sA ?_ | refine sB ?_ | refine sC ?_ | refine sD ?_ | refine sE ?_ | refine sF ?_))
      first | refine sim_op (postfix_m hR _) (fun _ h => nomatch h) fun r14 nr14 => ?_ | refine sim_op1 (postfix_m hR _) (fun _ h => nomatch h) fun r14 nr14 => ?_
      (with_reducible repeat (first | refine sA ?_ | refine sB ?_ | refine sC ?_ | refine sD ?_ | refine sE ?_ | refine sF ?_))
      exact sim_ret1 (t := tP) _ rfl (fun F hF => hF _ (by repeat (first | exact mz | apply ms)))
end Go.Proofs.YtjlgcpgjdgeejaaGreatDoor
end

/- The parser's levels of operators. Conditions: none. -/
section
namespace Go.Proofs.YtjlgcpgjdgeejaaGreatDoor
open Go
set_option linter.unusedSimpArgs false
set_option linter.unusedVariables false
set_option linter.constructorNameAsVariable false
set_option maxRecDepth 100000

def encStr (s : ByteArray) : List Value := [.string s]
theorem rows_one {α : Type} (g : α → Value) (l : List α) : rows (fun x => [g x]) l = l.map g := by
  induction l with
  | nil => rfl
  | cons x l ih => rw [rows_cons, ih]; rfl
theorem run_nilSl {P : Program} {t e : TypeId} {n : Nat} (ht : slOf P t = some (e, n)) (x : SlD) (w : World) : (binS .eql t (.slice x.1 x.2.1 x.2.2) (.slice none 0 0)).run P w = .ok (.value (.bool x.1.isNone)) w := by
  obtain ⟨a, l, c⟩ := x
  have hu := (slOf_spec ht).1
  have h : ∀ a, (Op.equal t (.slice a l c) (.slice none 0 0)).run P w = .ok a.isNone w := fun a => by
    unfold Op.equal
    rw [show Op.maxDepth = 9999 + 1 from rfl, Op.equalIn]
    rw [Sem.run_bind, run_underlying hu, Result.andThen_ok]
    cases a <;> rfl
  simp [binS, valS, eqGuard, binOp, h]
theorem run_lits {α : Type} {t e : TypeId} {n : Nat} {ps : Array (Nat × Value)} {z : Value} (g : α → Value) (l : List α) (ht : slOf PG t = some (e, 1)) (hz : (PG.info? e).bind (·.zero) = some z) (hn : l.length = n) (h0 : 0 < n) (hsz : n ≤ 1000)
    (hf : Instr.fill (fun i => some (i * 1, 1)) ((Array.range (n * 1)).map (z.cells[· % z.cells.size]!)) ps.toList = some (l.map g).toArray) (w : World) :
    (sliceS t n ps).run PG w = .ok (.value (.slice (some ⟨w.heap.size, 0, none⟩) n n)) (w.alloc (blk e (l.map g))) := by
  have := run_sliceS (P := PG) (w := w) (t := t) (e := e) (n := n) (size := 1) (ps := ps) (cells := (l.map g).toArray) (zero := z) ht (by omega) hz hf (by omega)
  simpa using this
theorem loc_lits {α : Type} {L : Own} {Γ : List Fact} {t e : TypeId} {n : Nat} {ps : Array (Nat × Value)} {z : Value} (g : α → Value) (l : List α) (ht : slOf PG t = some (e, 1)) (hz : (PG.info? e).bind (·.zero) = some z) (hn : l.length = n) (h0 : 0 < n) (hsz : n ≤ 1000)
    (hf : Instr.fill (fun i => some (i * 1, 1)) ((Array.range (n * 1)).map (z.cells[· % z.cells.size]!)) ps.toList = some (l.map g).toArray) :
    Loc PG (sliceS t n ps) tSl L Γ fun y L' Γ' => L' = L ∧ (∃ b, y.1 = some ⟨b, 0, none⟩) ∧ Γ' = Sl 1 (fun x => [g x]) y l :: Γ :=
  Loc.val fun r w F H hF hsp => ⟨(some ⟨w.heap.size, 0, none⟩, n, n), _, L, _, F.ins w.heap.size (blk e (l.map g)), .inl (run_lits g l ht hz hn h0 hsz hf w), hsp.new_le _,
    Holds.cons (A := Sl 1 (fun x => [g x]) (some ⟨w.heap.size, 0, none⟩, n, n) l) ⟨hn.symm, .inr ⟨⟨w.heap.size, 0, none⟩, l.map g, e, rfl, rfl, by simp [Heap.ins], by
      rw [rows_one]; show List.take (1 * l.length) (l.map g) = _; rw [List.take_of_length_le (by simp)]⟩⟩ (hF.mono (hsp.new_le _)), hsp.newF _, rfl, ⟨w.heap.size, rfl⟩, rfl⟩
theorem sim_lits {ε σ β α : Type} {I : Ifc ε σ} {t1 : Ty} {Rel : β → t1.den → Own → Fact} {Δ : Labels ε σ β} {q : Option Quiet} {L : Own} {Γ : List Fact} {s : Sp ε σ β} {t e : TypeId} {n : Nat} {ps : Array (Nat × Value)} {z : Value} {k : SlD → T} (g : α → Value) (l : List α)
    (ht : slOf PG t = some (e, 1)) (hz : (PG.info? e).bind (·.zero) = some z) (hn : l.length = n) (h0 : 0 < n) (hsz : n ≤ 1000)
    (hf : Instr.fill (fun i => some (i * 1, 1)) ((Array.range (n * 1)).map (z.cells[· % z.cells.size]!)) ps.toList = some (l.map g).toArray)
    (hk : ∀ y b, y.1 = some ⟨b, 0, none⟩ → Sim PG I t1 Rel Δ none (k y) s L (Sl 1 (fun x => [g x]) y l :: Γ)) : Sim PG I t1 Rel Δ q (.op (sliceS t n ps) tSl k) s L Γ := by
  refine sim_loc (loc_lits g l ht hz hn h0 hsz hf) ?_
  rintro x _ _ ⟨rfl, ⟨b, hb⟩, rfl⟩
  exact hk x b hb
abbrev StrsF (l : List ByteArray) (x : SlD) : Fact := Sl 1 (fun s : ByteArray => [Value.string s]) x l
def SignsF (l : List ByteArray) (x : SlD) : Fact := (Fact.prop (x.1.isNone = l.isEmpty)).both (StrsF l x)
theorem signs_m {ε σ : Type} (I : Ifc ε σ) (n : Nat) (hn : n ≤ 10) : Meets PG I (callS F_syntax_signs #[.int .i64 n]) tSl (Pure.pure (signsL n)) SignsF [] := by
  refine c_syntax_signs n ?_
  unfold t_syntax_signs
  refine sim_lits (z := .string kE) (e := T_string) Value.string [k_bar_bar] (by kernel_rfl) (by kernel_rfl) rfl (by decide) (by decide) (by kernel_rfl) fun r1 b1 h1 => ?_
  refine sim_lits (z := .string kE) (e := T_string) Value.string [k_amp_amp] (by kernel_rfl) (by kernel_rfl) rfl (by decide) (by decide) (by kernel_rfl) fun r2 b2 h2 => ?_
  refine sim_lits (z := .string kE) (e := T_string) Value.string [k_bar] (by kernel_rfl) (by kernel_rfl) rfl (by decide) (by decide) (by kernel_rfl) fun r3 b3 h3 => ?_
  refine sim_lits (z := .string kE) (e := T_string) Value.string [k_caret] (by kernel_rfl) (by kernel_rfl) rfl (by decide) (by decide) (by kernel_rfl) fun r4 b4 h4 => ?_
  refine sim_lits (z := .string kE) (e := T_string) Value.string [k_amp] (by kernel_rfl) (by kernel_rfl) rfl (by decide) (by decide) (by kernel_rfl) fun r5 b5 h5 => ?_
  refine sim_lits (z := .string kE) (e := T_string) Value.string [k_eq_eq_eq, k_bang_eq_eq] (by kernel_rfl) (by kernel_rfl) rfl (by decide) (by decide) (by kernel_rfl) fun r6 b6 h6 => ?_
  refine sim_lits (z := .string kE) (e := T_string) Value.string [k_lt, k_lt_eq, k_gt, k_gt_eq, kin, kas] (by kernel_rfl) (by kernel_rfl) rfl (by decide) (by decide) (by kernel_rfl) fun r7 b7 h7 => ?_
  refine sim_lits (z := .string kE) (e := T_string) Value.string [k_lt_lt, k_gt_gt, k_gt_gt_gt] (by kernel_rfl) (by kernel_rfl) rfl (by decide) (by decide) (by kernel_rfl) fun r8 b8 h8 => ?_
  refine sim_lits (z := .string kE) (e := T_string) Value.string [k_plus, k_minus] (by kernel_rfl) (by kernel_rfl) rfl (by decide) (by decide) (by kernel_rfl) fun r9 b9 h9 => ?_
  refine sim_lits (z := .string kE) (e := T_string) Value.string [k_star, k_pct] (by kernel_rfl) (by kernel_rfl) rfl (by decide) (by decide) (by kernel_rfl) fun r10 b10 h10 => ?_
  refine sim_lits (z := .slice none 0 0) (e := T_Sstring) (fun x : SlD => Value.slice x.1 x.2.1 x.2.2) [r1, r2, r3, r4, r5, r6, r7, r8, r9, r10] (by kernel_rfl) (by kernel_rfl) rfl (by decide) (by decide) (by kernel_rfl) fun r11 b11 h11 => ?_
  refine Sim.note (φ := r11.2.1 = 10) (fun F hF => (hF (Sl 1 (fun x : SlD => [Value.slice x.1 x.2.1 x.2.2]) r11 [r1, r2, r3, r4, r5, r6, r7, r8, r9, r10]) (by repeat (first | exact mz | apply ms))).1) fun hl => ?_
  refine qE (fun h => ?_) (fun h => ?_)
  · have : n = 10 := by simp [hl] at h; omega
    subst this
    exact sim_ret1 (t := tSl) (none, 0, 0) rfl (fun F hF => ⟨rfl, rfl, .inl rfl⟩)
  · have hlt : n < 10 := by simp [hl] at h; omega
    have main : ∀ (y : SlD) (b : Nat) (ss : List ByteArray), [r1, r2, r3, r4, r5, r6, r7, r8, r9, r10][n]? = some y → y.1 = some ⟨b, 0, none⟩ → ss.isEmpty = false → signsL n = ss →
        StrsF ss y ∈ [Sl 1 (fun x : SlD => [Value.slice x.1 x.2.1 x.2.2]) r11 [r1, r2, r3, r4, r5, r6, r7, r8, r9, r10], StrsF [k_star, k_pct] r10, StrsF [k_plus, k_minus] r9, StrsF [k_lt_lt, k_gt_gt, k_gt_gt_gt] r8, StrsF [k_lt, k_lt_eq, k_gt, k_gt_eq, kin, kas] r7,
          StrsF [k_eq_eq_eq, k_bang_eq_eq] r6, StrsF [k_amp] r5, StrsF [k_caret] r4, StrsF [k_bar] r3, StrsF [k_amp_amp] r2, StrsF [k_bar_bar] r1] →
        Sim PG I tSl (pl SignsF) noLabel none (.op (idxAS T_SSstring (.slice r11.1 r11.2.1 r11.2.2) (.int .i64 n)) tA fun r12 => .op (ldS T_Sstring (.pointer (some r12))) tSl fun r13 => .ret #[.v (.slice r13.1 r13.2.1 r13.2.2)]) (Pure.pure (signsL n)) []
          [Sl 1 (fun x : SlD => [Value.slice x.1 x.2.1 x.2.2]) r11 [r1, r2, r3, r4, r5, r6, r7, r8, r9, r10], StrsF [k_star, k_pct] r10, StrsF [k_plus, k_minus] r9, StrsF [k_lt_lt, k_gt_gt, k_gt_gt_gt] r8, StrsF [k_lt, k_lt_eq, k_gt, k_gt_eq, kin, kas] r7,
          StrsF [k_eq_eq_eq, k_bang_eq_eq] r6, StrsF [k_amp] r5, StrsF [k_caret] r4, StrsF [k_bar] r3, StrsF [k_amp_amp] r2, StrsF [k_bar_bar] r1] := by
      intro y b ss hy hb hss hs hm
      refine sim_loc (loc_idx (f := fun x : SlD => [Value.slice x.1 x.2.1 x.2.2]) (l := [r1, r2, r3, r4, r5, r6, r7, r8, r9, r10]) h11 (fun F hF => hF _ (List.mem_cons_self ..)) (by kernel_rfl) n rfl (by simpa using hlt)) ?_
      rintro _ _ _ ⟨rfl, rfl, rfl⟩
      refine sim_loc (loc_elem1 (f := fun x : SlD => [Value.slice x.1 x.2.1 x.2.2]) (b := .slice) (fun _ => rfl) h11 (fun F hF => hF _ (List.mem_cons_self ..)) hy (by kernel_rfl) y rfl) ?_
      rintro _ _ _ ⟨rfl, rfl, rfl⟩
      rw [hs]
      exact sim_ret1 (t := tSl) y rfl (fun F hF => ⟨by rw [hb, hss]; rfl, hF _ hm⟩)
    have h : n = 0 ∨ n = 1 ∨ n = 2 ∨ n = 3 ∨ n = 4 ∨ n = 5 ∨ n = 6 ∨ n = 7 ∨ n = 8 ∨ n = 9 := by omega
    rcases h with rfl | rfl | rfl | rfl | rfl | rfl | rfl | rfl | rfl | rfl
    · exact main r1 b1 _ rfl h1 rfl rfl (by repeat (first | exact mz | apply ms))
    · exact main r2 b2 _ rfl h2 rfl rfl (by repeat (first | exact mz | apply ms))
    · exact main r3 b3 _ rfl h3 rfl rfl (by repeat (first | exact mz | apply ms))
    · exact main r4 b4 _ rfl h4 rfl rfl (by repeat (first | exact mz | apply ms))
    · exact main r5 b5 _ rfl h5 rfl rfl (by repeat (first | exact mz | apply ms))
    · exact main r6 b6 _ rfl h6 rfl rfl (by repeat (first | exact mz | apply ms))
    · exact main r7 b7 _ rfl h7 rfl rfl (by repeat (first | exact mz | apply ms))
    · exact main r8 b8 _ rfl h8 rfl rfl (by repeat (first | exact mz | apply ms))
    · exact main r9 b9 _ rfl h9 rfl rfl (by repeat (first | exact mz | apply ms))
    · exact main r10 b10 _ rfl h10 rfl rfl (by repeat (first | exact mz | apply ms))

def roundT (pb : Nat) (n : Int) (sl : SlD) (pos : Int) (p : Option Addr) : T :=
  .loop 1 [.b .ptr, .b (.int .i64)] [.pointer p, .int .i64 0] fun x6 =>
        .ite (decide ((x6.2.1 : Int) < (sl.2.1 : Int))) (
          .op (idxAS T_Sstring (.slice sl.1 sl.2.1 sl.2.2) (.int .i64 x6.2.1)) tA fun r7 =>
          .op (ldS T_string (.pointer (some r7))) tS fun r8 =>
          .op (callS F_parser_take #[.pointer (some (pAt pb)), .string r8]) tB fun r9 =>
          .ite (!r9) (
            .out 1 [.pointer x6.1, .int .i64 (IntKind.i64.wrap (x6.2.1 + 1))]) (
            .ite (r8.toList == kas.toList) (
              .op (callS F_parser_typed #[.pointer (some (pAt pb))]) tP fun r10 =>
              .op (sliceS T_SPsyntax_node 2 #[(0, .pointer x6.1), (1, .pointer r10)]) tSl fun r11 =>
              .op (callS F_syntax_made #[.int .i64 33, .string kE, .int .i64 0, .int .i64 pos, .slice r11.1 r11.2.1 r11.2.2]) tP fun r12 =>
              .out 0 [.slice sl.1 sl.2.1 sl.2.2, .int .i64 pos, .pointer r12]) (
              .op (callS F_parser_level #[.pointer (some (pAt pb)), .int .i64 (IntKind.i64.wrap (n + 1))]) tP fun r13 =>
              .op (sliceS T_SPsyntax_node 2 #[(0, .pointer x6.1), (1, .pointer r13)]) tSl fun r14 =>
              .op (callS F_syntax_made #[.int .i64 24, .string r8, .int .i64 0, .int .i64 pos, .slice r14.1 r14.2.1 r14.2.2]) tP fun r15 =>
              .out 0 [.slice sl.1 sl.2.1 sl.2.2, .int .i64 pos, .pointer r15]))) (
          .ret #[.v (.pointer x6.1)])
def lbAll (R : PRec) (ss : List ByteArray) (below : PM N) : Label Int PSt N :=
  { ι := Nat × Int × N, sp := fun j => againS R ss j.2.1 below j.1 j.2.2,
    J := fun j vs L' => Fact.ex fun p : Option Addr => Fact.ex fun sl : SlD => (Fact.prop (vs = [.slice sl.1 sl.2.1 sl.2.2, .int .i64 j.2.1, .pointer p] ∧ L' = [])).both ((StrsF ss sl).both (NodeF j.2.2 p)) }
def lbAg (R : PRec) (ss : List ByteArray) (below : PM N) (k : Nat) : Label Int PSt N :=
  { ι := { j : Nat × Int × N // j.1 < k }, sp := fun j => (lbAll R ss below).sp j.1, J := fun j vs L' => (lbAll R ss below).J j.1 vs L' }
def afterS (R : PRec) (ss : List ByteArray) (pos : Int) (below : PM N) (k : Nat) (x : N) (o : Option ByteArray) : PM N := match o with
    | none => pure x
    | some s => cond (s.toList == kas.toList) (do let y ← R.typed; againS R ss pos below k (mkN 33 kE 0 pos [x, y])) (do let y ← below; againS R ss pos below k (mkN 24 s 0 pos [x, y]))
theorem againS_eq (R : PRec) (ss : List ByteArray) (pos : Int) (below : PM N) (k : Nat) (x : N) : againS R ss pos below (k + 1) x = oneOfS ss >>= afterS R ss pos below k x := rfl
theorem round_sim {R : PRec} (hR : PRecM R) (pb : Nat) (n : Int) (ss : List ByteArray) (hss : ss.length ≤ 10) (pos : Int) (below : PM N) (hb : Meets PG (PI pb) (callS F_parser_level #[.pointer (some (pAt pb)), .int .i64 (IntKind.i64.wrap (n + 1))]) tP below NodeF [])
    {Δ : Labels Int PSt N} {q : Option Quiet} {Γ : List Fact} (k : Nat) (x : N) (p : Option Addr) (sl : SlD) (hsl : StrsF ss sl ∈ Γ) (hx : NodeF x p ∈ Γ) (h0 : Δ 0 = lbAg R ss below (k + 1)) :
    Sim PG (PI pb) tP (pl NodeF) Δ q (roundT pb n sl pos p) (againS R ss pos below (k + 1) x) [] Γ := by
  rw [againS_eq]
  unfold roundT
  refine sim_loop (x := { ι := { j : Nat // j ≤ ss.length }, sp := fun j => oneOfS (ss.drop j.1) >>= afterS R ss pos below k x, J := fun j vs L' => Fact.prop (vs = [.pointer p, .int .i64 j.1] ∧ L' = []) }) (fun j => ss.length - j.1) ⟨0, Nat.zero_le _⟩ rfl (fun F hF => ⟨rfl, rfl⟩) ?_ ?_
  · rintro ⟨j, hj⟩ vs L' F ⟨rfl, _⟩; exact ⟨(p, (j : Int), ()), rfl⟩
  · rintro ⟨j, hj⟩ L' ⟨p', j', ⟨⟩⟩
    refine Sim.prop fun ⟨hv, hL⟩ => ?_
    subst hL
    have h1 := (List.cons.inj hv).1
    have h2 := (List.cons.inj (List.cons.inj hv).2).1
    obtain rfl : p' = p := by cases h1; rfl
    obtain rfl : j' = (j : Int) := by cases h2; rfl
    refine Sim.note (φ := sl.2.1 = ss.length) (fun F hF => (hF _ hsl).1) fun hl => ?_
    refine qE (fun h => ?_) (fun h => ?_)
    · have hlt : j < ss.length := by simp [hl] at h; omega
      refine Sim.note (φ := ∃ a, sl.1 = some a ∧ a.spot = none) (fun F hF => Sl.addr (hF _ hsl) (by omega)) fun ⟨a, ha, _⟩ => ?_
      have hd : ss.drop j = ss.getD j kE :: ss.drop (j + 1) := by
        rw [List.drop_eq_getElem_cons hlt]; simp [hlt]
      refine sim_loc (loc_idx ha (fun F hF => hF _ hsl) (by kernel_rfl) j rfl hlt) ?_
      rintro _ _ _ ⟨rfl, rfl, rfl⟩
      refine sim_loc (loc_elem1 (b := .str) (fun _ => rfl) ha (fun F hF => hF _ hsl) (getD_some (d := kE) hlt) (by kernel_rfl) (ss.getD j kE) rfl) ?_
      rintro _ _ _ ⟨rfl, rfl, rfl⟩
      show Sim PG (PI pb) tP (pl NodeF) _ none _ (oneOfS (ss.drop j) >>= afterS R ss pos below k x) [] _
      rw [hd]
      show Sim PG (PI pb) tP (pl NodeF) _ none _ ((takeS (ss.getD j kE) >>= fun b => cond b (pure (some (ss.getD j kE))) (oneOfS (ss.drop (j + 1)))) >>= afterS R ss pos below k x) [] _
      refine sA (sim_op (take_m _ _) (fun _ h => nomatch h) fun r9 b => Sim.prop fun h => ?_)
      subst h
      refine qD (fun h => ?_) (fun h => ?_)
      · refine sim_outX rfl ⟨⟨j + 1, hlt⟩, ?_⟩ rfl fun F hF => ⟨?_, rfl⟩
        · show ss.length - (j + 1) < ss.length - j; omega
        · show [Value.pointer p', .int .i64 (IntKind.i64.wrap ((j : Int) + 1))] = [.pointer p', .int .i64 ((j + 1 : Nat) : Int)]
          rw [wrap_id (by omega) (by omega)]; simp
      · show Sim PG (PI pb) tP (pl NodeF) _ none _ (afterS R ss pos below k x (some (ss.getD j kE))) [] _
        unfold afterS
        refine qA (fun h => ?_) (fun h => ?_)
        · refine sim_op (hR.typed _) (fun _ h => nomatch h) fun r10 n10 => ?_
          refine sim_node [p', r10] [x, n10] rfl (by decide) (by decide) (by kernel_rfl) (fun F hF => .cons _ _ _ _ (hF (NodeF x p') (List.mem_cons_of_mem _ hx)) (.cons _ _ _ _ (hF (NodeF n10 r10) (by repeat (first | exact mz | apply ms))) .nil)) fun r12 => ?_
          refine sim_outX (x := lbAg R ss below (k + 1)) (by simp [Labels.set, h0]) ⟨(k, pos, mkN 33 kE 0 pos [x, n10]), Nat.lt_succ_self k⟩ rfl fun F hF => ⟨r12, sl, ⟨rfl, rfl⟩, hF _ (List.mem_cons_of_mem _ (List.mem_cons_of_mem _ hsl)), hF _ (List.mem_cons_self ..)⟩
        · refine sim_op hb (fun _ h => nomatch h) fun r13 n13 => ?_
          refine sim_node [p', r13] [x, n13] rfl (by decide) (by decide) (by kernel_rfl) (fun F hF => .cons _ _ _ _ (hF (NodeF x p') (List.mem_cons_of_mem _ hx)) (.cons _ _ _ _ (hF (NodeF n13 r13) (by repeat (first | exact mz | apply ms))) .nil)) fun r15 => ?_
          refine sim_outX (x := lbAg R ss below (k + 1)) (by simp [Labels.set, h0]) ⟨(k, pos, mkN 24 (ss.getD j kE) 0 pos [x, n13]), Nat.lt_succ_self k⟩ rfl fun F hF => ⟨r15, sl, ⟨rfl, rfl⟩, hF _ (List.mem_cons_of_mem _ (List.mem_cons_of_mem _ hsl)), hF _ (List.mem_cons_self ..)⟩
    · have hge : ss.length ≤ j := by simp [hl] at h; omega
      refine Sim.spec (s' := pure x) ?_ (sim_ret1 (t := tP) p' rfl (fun F hF => hF _ hx))
      show (oneOfS (ss.drop j) >>= afterS R ss pos below k x) = _
      rw [List.drop_eq_nil_of_le hge]; rfl
theorem signsL_len (n : Nat) : (signsL n).length ≤ 10 := by unfold signsL; split <;> simp
theorem level_m {R : PRec} (hR : PRecM R) (pb : Nat) : ∀ m, m ≤ 10 → Meets PG (PI pb) (callS F_parser_level #[.pointer (some (pAt pb)), .int .i64 ((10 - m : Nat) : Int)]) tP (levelS R m) NodeF [] := by
  intro m
  induction m with
  | zero =>
    intro _
    refine c_parser_level (pAt pb) 10 ?_
    unfold t_parser_level
    refine sim_join (x := { ι := Empty, sp := fun i => i.elim, J := fun i => i.elim }) ?_ fun i => i.elim
    refine sim_valR (signs_m _ 10 (Nat.le_refl _)) (fun _ h => nomatch h) fun r1 => Sim.both (Sim.prop fun h1 => ?_)
    refine sim_loc (loc_pure (t1 := tB) r1.1.isNone fun w => run_nilSl (e := T_string) (n := 1) (by kernel_rfl) r1 w) ?_
    rintro _ _ _ ⟨rfl, rfl, rfl⟩
    refine qE (fun h => ?_) (fun h => ?_)
    · refine sim_op1 (unary_m hR _) (fun _ h => nomatch h) fun r3 n3 => ?_
      exact sim_ret1 (t := tP) _ rfl (fun F hF => hF _ (by repeat (first | exact mz | apply ms)))
    · rw [h1] at h; cases h
  | succ m ih =>
    intro hm
    have hn : 10 - (m + 1) = 9 - m := by omega
    rw [hn]
    have hb : Meets PG (PI pb) (callS F_parser_level #[.pointer (some (pAt pb)), .int .i64 (IntKind.i64.wrap (((9 - m : Nat) : Int) + 1))]) tP (levelS R m) NodeF [] := by
      have h := ih (by omega)
      rw [wrap_id (by omega) (by omega), show ((9 - m : Nat) : Int) + 1 = ((10 - m : Nat) : Int) by omega]
      exact h
    have hss : (signsL (9 - m)).isEmpty = false := by
      have h : m = 0 ∨ m = 1 ∨ m = 2 ∨ m = 3 ∨ m = 4 ∨ m = 5 ∨ m = 6 ∨ m = 7 ∨ m = 8 ∨ m = 9 := by omega
      rcases h with rfl | rfl | rfl | rfl | rfl | rfl | rfl | rfl | rfl | rfl <;> rfl
    refine c_parser_level (pAt pb) ((9 - m : Nat) : Int) ?_
    unfold t_parser_level
    refine sim_join (x := lbAg R (signsL (9 - m)) (levelS R m) R.fuel) ?_ fun i vs L' => ⟨?_, fun y => ?_⟩
    · refine sim_valR (signs_m _ (9 - m) (by omega)) (fun _ h => nomatch h) fun r1 => Sim.both (Sim.prop fun h1 => ?_)
      refine sim_loc (loc_pure (t1 := tB) r1.1.isNone fun w => run_nilSl (e := T_string) (n := 1) (by kernel_rfl) r1 w) ?_
      rintro _ _ _ ⟨rfl, rfl, rfl⟩
      refine qE (fun h => ?_) (fun h => ?_)
      · rw [h1, hss] at h; cases h
      · show Sim PG (PI pb) tP (pl NodeF) _ none _ (nowS >>= fun t => levelS R m >>= fun x => againS R (signsL (9 - m)) t.pos (levelS R m) R.fuel x) [] _
        refine sim_op (now_m _) (fun _ h => nomatch h) fun r4 b => Sim.prop fun h => ?_
        subst h
        refine sim_op hb (fun _ h => nomatch h) fun r5 n5 => ?_
        cases hf : R.fuel with
        | zero => intro r w F H st res S hs; cases hs
        | succ k => exact round_sim hR pb _ _ (signsL_len _) _ _ hb k n5 r5 r1 (by repeat (first | exact mz | apply ms)) (by repeat (first | exact mz | apply ms)) rfl
    · rintro F ⟨p, sl, ⟨rfl, _⟩, _⟩; exact ⟨(sl, i.1.2.1, p, ()), rfl⟩
    · refine Sim.ex fun p => Sim.ex fun sl => Sim.both (Sim.prop fun ⟨hv, hL⟩ => ?_)
      subst hL
      refine sim_loop (x := lbAll R (signsL (9 - m)) (levelS R m)) (fun j => j.1) i.1 rfl (fun F hF => ⟨p, sl, ⟨hv, rfl⟩, hF _ (by repeat (first | exact mz | apply ms))⟩) ?_ ?_
      · rintro j vs L' F ⟨p, sl, ⟨rfl, _⟩, _⟩; exact ⟨(sl, j.2.1, p, ()), rfl⟩
      · rintro ⟨k, pos, x⟩ L' ⟨sl', pos', p', ⟨⟩⟩
        refine Sim.ex fun p2 => Sim.ex fun sl2 => Sim.both (Sim.prop fun ⟨hv, hL⟩ => Sim.both ?_)
        subst hL
        have e1 := (List.cons.inj hv).1
        have e2 := (List.cons.inj (List.cons.inj hv).2).1
        have e3 := (List.cons.inj (List.cons.inj (List.cons.inj hv).2).2).1
        obtain rfl : pos' = pos := by cases e2; rfl
        obtain rfl : p' = p2 := by cases e3; rfl
        obtain rfl : sl' = sl2 := by
          obtain ⟨a, b, c⟩ := sl'; obtain ⟨a2, b2, c2⟩ := sl2
          have e1' : Value.slice a b c = Value.slice a2 b2 c2 := e1
          cases e1'; rfl
        cases k with
        | zero => intro r w F H st res S hs; cases hs
        | succ k => exact round_sim hR pb _ _ (signsL_len _) _ _ hb k x p' sl' (by repeat (first | exact mz | apply ms)) (by repeat (first | exact mz | apply ms)) rfl
end Go.Proofs.YtjlgcpgjdgeejaaGreatDoor
end

/- The parser of expressions: levels. Conditions: none. -/
section
namespace Go.Proofs.YtjlgcpgjdgeejaaGreatDoor
open Go
set_option linter.unusedSimpArgs false
set_option linter.unusedVariables false
set_option linter.constructorNameAsVariable false
set_option maxRecDepth 100000

theorem emptyO_m (pb : Nat) : MeetsO PG (PI pb) (callS F_parser_empty #[.pointer (some (pAt pb))]) tP emptyS OwnN [] := by
  refine c_parser_empty (pAt pb) ?_
  unfold t_parser_empty emptyS
  refine sim_op (now_m pb) (fun _ h => nomatch h) fun x b => Sim.prop fun h => ?_
  subst h
  refine sim_own0 fun y K => ?_
  exact sim_ret1O (t := tP) K (List.sublist_append_left ..) _ rfl (fun F hF => hF _ (List.mem_cons_self ..))
theorem arrowed_m {R : PRec} (hR : PRecM R) (pb : Nat) (pos : Int) : Meets PG (PI pb) (callS F_parser_arrowed #[.pointer (some (pAt pb)), .int .i64 pos]) tP (arrowedS R pos) NodeF [] := by
  refine c_parser_arrowed (pAt pb) pos ?_
  unfold t_parser_arrowed arrowedS
  (with_reducible repeat (first | refine sA ?_ | refine sB ?_ | refine sC ?_ | refine sD ?_ | refine sE ?_ | refine sF ?_))
  first | refine sim_op (empty_m _) (fun _ h => nomatch h) fun r1 nr1 => ?_ | refine sim_op1 (empty_m _) (fun _ h => nomatch h) fun r1 nr1 => ?_
  (with_reducible repeat (first | refine sA ?_ | refine sB ?_ | refine sC ?_ | refine sD ?_ | refine sE ?_ | refine sF ?_))
  refine sim_opO (emptyO_m _) (fun _ h => nomatch h) fun r2 nr2 Kr2 => ?_
  (with_reducible repeat (first | refine sA ?_ | refine sB ?_ | refine sC ?_ | refine sD ?_ | refine sE ?_ | refine sF ?_))
  first | refine sim_op (now_m _) (fun _ h => nomatch h) fun r3 b => Sim.prop fun h => ?_ | refine sim_op1 (now_m _) (fun _ h => nomatch h) fun r3 b => Sim.prop fun h => ?_
  subst h
  refine sim_joinPPb ?_ fun nx1 nx2 x1 x2 => ?_
  · skip
    (with_reducible repeat (first | refine sA ?_ | refine sB ?_ | refine sC ?_ | refine sD ?_ | refine sE ?_ | refine sF ?_))
    (first | refine qA (fun h => ?_) fun h => ?_ | refine qB (fun h => ?_) fun h => ?_ | refine qC (fun h => ?_) fun h => ?_ | refine qD (fun h => ?_) fun h => ?_ | refine qE (fun h => ?_) fun h => ?_) -- ((r3.1 : Int) == 1)
    · skip
      (with_reducible repeat (first | refine sA ?_ | refine sB ?_ | refine sC ?_ | refine sD ?_ | refine sE ?_ | refine sF ?_))
      first | refine sim_op (name_m _) (fun _ h => nomatch h) fun r4 b => Sim.prop fun h => ?_ | refine sim_op1 (name_m _) (fun _ h => nomatch h) fun r4 b => Sim.prop fun h => ?_
      subst h
      (with_reducible repeat (first | refine sA ?_ | refine sB ?_ | refine sC ?_ | refine sD ?_ | refine sE ?_ | refine sF ?_))
      first | refine sim_op (none_m _) (fun _ h => nomatch h) fun r5 nr5 => ?_ | refine sim_op1 (none_m _) (fun _ h => nomatch h) fun r5 nr5 => ?_
      refine sim_node [r5] [nr5] rfl (by decide) (by decide) (by kernel_rfl) (fun F hF => (.cons _ _ _ _ (hF (NodeF nr5 r5) (by repeat (first | exact mz | apply ms))) .nil)) fun r7 => ?_
      refine sim_loc (loc_ptrs [r7] rfl (by decide) (by decide) (by kernel_rfl)) ?_
      rintro sl _ _ ⟨rfl, rfl⟩
      refine sim_storeKids (n := nr2) (ps := [r7]) (kids := [mkN 66 r4 0 pos [nr5]]) (by repeat (first | exact mz | apply ms)) (fun F hF => ⟨hF _ (List.mem_cons_self ..), .cons _ _ _ _ (hF (NodeF (mkN 66 r4 0 pos [nr5]) r7) (by repeat (first | exact mz | apply ms))) .nil⟩) ?_
      exact sim_outPP (nr1, nr2.setKids [mkN 66 r4 0 pos [nr5]]) rfl (by repeat (first | exact mz | apply ms)) (by repeat (first | exact mz | apply ms))
    · skip
      (with_reducible repeat (first | refine sA ?_ | refine sB ?_ | refine sC ?_ | refine sD ?_ | refine sE ?_ | refine sF ?_))
      first | refine sim_op (vars_m hR _) (fun _ h => nomatch h) fun r11 nr11 => ?_ | refine sim_op1 (vars_m hR _) (fun _ h => nomatch h) fun r11 nr11 => ?_
      (with_reducible repeat (first | refine sA ?_ | refine sB ?_ | refine sC ?_ | refine sD ?_ | refine sE ?_ | refine sF ?_))
      first | refine sim_op (must_m _ _) (fun _ h => nomatch h) fun x b => ?_ | refine sim_op1 (must_m _ _) (fun _ h => nomatch h) fun x b => ?_
      (with_reducible repeat (first | refine sA ?_ | refine sB ?_ | refine sC ?_ | refine sD ?_ | refine sE ?_ | refine sF ?_))
      first | refine sim_op (params_m hR _ _) (fun _ h => nomatch h) fun r13 nr13 => ?_ | refine sim_op1 (params_m hR _ _) (fun _ h => nomatch h) fun r13 nr13 => ?_
      (with_reducible repeat (first | refine sA ?_ | refine sB ?_ | refine sC ?_ | refine sD ?_ | refine sE ?_ | refine sF ?_))
      first | refine sim_op (must_m _ _) (fun _ h => nomatch h) fun x b => ?_ | refine sim_op1 (must_m _ _) (fun _ h => nomatch h) fun x b => ?_
      exact sim_outPP (nr11, nr13) rfl (by repeat (first | exact mz | apply ms)) (by repeat (first | exact mz | apply ms))
  · skip
    (with_reducible repeat (first | refine sA ?_ | refine sB ?_ | refine sC ?_ | refine sD ?_ | refine sE ?_ | refine sF ?_))
    first | refine sim_op (must_m _ _) (fun _ h => nomatch h) fun x b => ?_ | refine sim_op1 (must_m _ _) (fun _ h => nomatch h) fun x b => ?_
    (with_reducible repeat (first | refine sA ?_ | refine sB ?_ | refine sC ?_ | refine sD ?_ | refine sE ?_ | refine sF ?_))
    first | refine sim_op (is_m _ _) (fun _ h => nomatch h) fun r17 b => Sim.prop fun h => ?_ | refine sim_op1 (is_m _ _) (fun _ h => nomatch h) fun r17 b => Sim.prop fun h => ?_
    subst h
    (with_reducible repeat (first | refine sA ?_ | refine sB ?_ | refine sC ?_ | refine sD ?_ | refine sE ?_ | refine sF ?_))
    (first | refine qA (fun h => ?_) fun h => ?_ | refine qB (fun h => ?_) fun h => ?_ | refine qC (fun h => ?_) fun h => ?_ | refine qD (fun h => ?_) fun h => ?_ | refine qE (fun h => ?_) fun h => ?_) -- r17
    · skip
      (with_reducible repeat (first | refine sA ?_ | refine sB ?_ | refine sC ?_ | refine sD ?_ | refine sE ?_ | refine sF ?_))
      first | refine sim_op (hR.block _) (fun _ h => nomatch h) fun r18 nr18 => ?_ | refine sim_op1 (hR.block _) (fun _ h => nomatch h) fun r18 nr18 => ?_
      refine sim_node [x1, x2, r18] [nx1, nx2, nr18] rfl (by decide) (by decide) (by kernel_rfl) (fun F hF => (.cons _ _ _ _ (hF (NodeF nx1 x1) (by repeat (first | exact mz | apply ms))) (.cons _ _ _ _ (hF (NodeF nx2 x2) (by repeat (first | exact mz | apply ms))) (.cons _ _ _ _ (hF (NodeF nr18 r18) (by repeat (first | exact mz | apply ms))) .nil)))) fun r20 => ?_
      (with_reducible repeat (first | refine sA ?_ | refine sB ?_ | refine sC ?_ | refine sD ?_ | refine sE ?_ | refine sF ?_))
      exact sim_ret1 (t := tP) _ rfl (fun F hF => hF _ (by repeat (first | exact mz | apply ms)))
    · skip
      (with_reducible repeat (first | refine sA ?_ | refine sB ?_ | refine sC ?_ | refine sD ?_ | refine sE ?_ | refine sF ?_))
      first | refine sim_op (hR.expr _) (fun _ h => nomatch h) fun r21 nr21 => ?_ | refine sim_op1 (hR.expr _) (fun _ h => nomatch h) fun r21 nr21 => ?_
      refine sim_node [x1, x2, r21] [nx1, nx2, nr21] rfl (by decide) (by decide) (by kernel_rfl) (fun F hF => (.cons _ _ _ _ (hF (NodeF nx1 x1) (by repeat (first | exact mz | apply ms))) (.cons _ _ _ _ (hF (NodeF nx2 x2) (by repeat (first | exact mz | apply ms))) (.cons _ _ _ _ (hF (NodeF nr21 r21) (by repeat (first | exact mz | apply ms))) .nil)))) fun r23 => ?_
      (with_reducible repeat (first | refine sA ?_ | refine sB ?_ | refine sC ?_ | refine sD ?_ | refine sE ?_ | refine sF ?_))
      exact sim_ret1 (t := tP) _ rfl (fun F hF => hF _ (by repeat (first | exact mz | apply ms)))
theorem cond_m {R : PRec} (hR : PRecM R) (pb : Nat) : Meets PG (PI pb) (callS F_parser_cond #[.pointer (some (pAt pb))]) tP (condS R) NodeF [] := by
  refine c_parser_cond (pAt pb) ?_
  unfold t_parser_cond condS
  (with_reducible repeat (first | refine sA ?_ | refine sB ?_ | refine sC ?_ | refine sD ?_ | refine sE ?_ | refine sF ?_))
  first | refine sim_op (now_m _) (fun _ h => nomatch h) fun r1 b => Sim.prop fun h => ?_ | refine sim_op1 (now_m _) (fun _ h => nomatch h) fun r1 b => Sim.prop fun h => ?_
  subst h
  refine sim_op (level_m hR _ 10 (by decide)) (fun _ h => nomatch h) fun r2 nr2 => ?_
  (with_reducible repeat (first | refine sA ?_ | refine sB ?_ | refine sC ?_ | refine sD ?_ | refine sE ?_ | refine sF ?_))
  first | refine sim_op (take_m _ _) (fun _ h => nomatch h) fun r3 b => Sim.prop fun h => ?_ | refine sim_op1 (take_m _ _) (fun _ h => nomatch h) fun r3 b => Sim.prop fun h => ?_
  subst h
  (with_reducible repeat (first | refine sA ?_ | refine sB ?_ | refine sC ?_ | refine sD ?_ | refine sE ?_ | refine sF ?_))
  (first | refine qA (fun h => ?_) fun h => ?_ | refine qB (fun h => ?_) fun h => ?_ | refine qC (fun h => ?_) fun h => ?_ | refine qD (fun h => ?_) fun h => ?_ | refine qE (fun h => ?_) fun h => ?_) -- (!r3)
  · skip
    (with_reducible repeat (first | refine sA ?_ | refine sB ?_ | refine sC ?_ | refine sD ?_ | refine sE ?_ | refine sF ?_))
    exact sim_ret1 (t := tP) _ rfl (fun F hF => hF _ (by repeat (first | exact mz | apply ms)))
  · skip
    (with_reducible repeat (first | refine sA ?_ | refine sB ?_ | refine sC ?_ | refine sD ?_ | refine sE ?_ | refine sF ?_))
    first | refine sim_op (hR.expr _) (fun _ h => nomatch h) fun r4 nr4 => ?_ | refine sim_op1 (hR.expr _) (fun _ h => nomatch h) fun r4 nr4 => ?_
    (with_reducible repeat (first | refine sA ?_ | refine sB ?_ | refine sC ?_ | refine sD ?_ | refine sE ?_ | refine sF ?_))
    first | refine sim_op (must_m _ _) (fun _ h => nomatch h) fun x b => ?_ | refine sim_op1 (must_m _ _) (fun _ h => nomatch h) fun x b => ?_
    (with_reducible repeat (first | refine sA ?_ | refine sB ?_ | refine sC ?_ | refine sD ?_ | refine sE ?_ | refine sF ?_))
    first | refine sim_op (hR.expr _) (fun _ h => nomatch h) fun r6 nr6 => ?_ | refine sim_op1 (hR.expr _) (fun _ h => nomatch h) fun r6 nr6 => ?_
    refine sim_node [r2, r4, r6] [nr2, nr4, nr6] rfl (by decide) (by decide) (by kernel_rfl) (fun F hF => (.cons _ _ _ _ (hF (NodeF nr2 r2) (by repeat (first | exact mz | apply ms))) (.cons _ _ _ _ (hF (NodeF nr4 r4) (by repeat (first | exact mz | apply ms))) (.cons _ _ _ _ (hF (NodeF nr6 r6) (by repeat (first | exact mz | apply ms))) .nil)))) fun r8 => ?_
    (with_reducible repeat (first | refine sA ?_ | refine sB ?_ | refine sC ?_ | refine sD ?_ | refine sE ?_ | refine sF ?_))
    exact sim_ret1 (t := tP) _ rfl (fun F hF => hF _ (by repeat (first | exact mz | apply ms)))
theorem expr_m {R : PRec} (hR : PRecM R) (pb : Nat) : Meets PG (PI pb) (callS F_parser_expr #[.pointer (some (pAt pb))]) tP (exprS R (condS R)) NodeF [] := by
  refine c_parser_expr (pAt pb) ?_
  unfold t_parser_expr exprS
  (with_reducible repeat (first | refine sA ?_ | refine sB ?_ | refine sC ?_ | refine sD ?_ | refine sE ?_ | refine sF ?_))
  first | refine sim_op (now_m _) (fun _ h => nomatch h) fun r1 b => Sim.prop fun h => ?_ | refine sim_op1 (now_m _) (fun _ h => nomatch h) fun r1 b => Sim.prop fun h => ?_
  subst h
  (with_reducible repeat (first | refine sA ?_ | refine sB ?_ | refine sC ?_ | refine sD ?_ | refine sE ?_ | refine sF ?_))
  first | refine sim_op (arrow_m _) (fun _ h => nomatch h) fun r2 b => Sim.prop fun h => ?_ | refine sim_op1 (arrow_m _) (fun _ h => nomatch h) fun r2 b => Sim.prop fun h => ?_
  subst h
  (with_reducible repeat (first | refine sA ?_ | refine sB ?_ | refine sC ?_ | refine sD ?_ | refine sE ?_ | refine sF ?_))
  (first | refine qA (fun h => ?_) fun h => ?_ | refine qB (fun h => ?_) fun h => ?_ | refine qC (fun h => ?_) fun h => ?_ | refine qD (fun h => ?_) fun h => ?_ | refine qE (fun h => ?_) fun h => ?_) -- r2
  · skip
    (with_reducible repeat (first | refine sA ?_ | refine sB ?_ | refine sC ?_ | refine sD ?_ | refine sE ?_ | refine sF ?_))
    first | refine sim_op (arrowed_m hR _ _) (fun _ h => nomatch h) fun r3 nr3 => ?_ | refine sim_op1 (arrowed_m hR _ _) (fun _ h => nomatch h) fun r3 nr3 => ?_
    (with_reducible repeat (first | refine sA ?_ | refine sB ?_ | refine sC ?_ | refine sD ?_ | refine sE ?_ | refine sF ?_))
    exact sim_ret1 (t := tP) _ rfl (fun F hF => hF _ (by repeat (first | exact mz | apply ms)))
  · skip
    (with_reducible repeat (first | refine sA ?_ | refine sB ?_ | refine sC ?_ | refine sD ?_ | refine sE ?_ | refine sF ?_))
    first | refine sim_op (cond_m hR _) (fun _ h => nomatch h) fun r4 nr4 => ?_ | refine sim_op1 (cond_m hR _) (fun _ h => nomatch h) fun r4 nr4 => ?_
    (with_reducible repeat (first | refine sA ?_ | refine sB ?_ | refine sC ?_ | refine sD ?_ | refine sE ?_ | refine sF ?_))
    first | refine sim_op (now_m _) (fun _ h => nomatch h) fun r5 b => Sim.prop fun h => ?_ | refine sim_op1 (now_m _) (fun _ h => nomatch h) fun r5 b => Sim.prop fun h => ?_
    subst h
    (with_reducible repeat (first | refine sA ?_ | refine sB ?_ | refine sC ?_ | refine sD ?_ | refine sE ?_ | refine sF ?_))
    first | refine sim_op (take_m _ _) (fun _ h => nomatch h) fun r6 b => Sim.prop fun h => ?_ | refine sim_op1 (take_m _ _) (fun _ h => nomatch h) fun r6 b => Sim.prop fun h => ?_
    subst h
    first | refine sim_joinBb ?_ fun x11 => ?_ | refine sim_joinBc ?_ fun x11 => ?_
    · skip
      (with_reducible repeat (first | refine sA ?_ | refine sB ?_ | refine sC ?_ | refine sD ?_ | refine sE ?_ | refine sF ?_))
      (first | refine qA (fun h => ?_) fun h => ?_ | refine qB (fun h => ?_) fun h => ?_ | refine qC (fun h => ?_) fun h => ?_ | refine qD (fun h => ?_) fun h => ?_ | refine qE (fun h => ?_) fun h => ?_) -- r6
      · skip
        exact sim_outB _ rfl (by first | rfl | (simp only [Tok.kind] at *; simp_all))
      · skip
        (with_reducible repeat (first | refine sA ?_ | refine sB ?_ | refine sC ?_ | refine sD ?_ | refine sE ?_ | refine sF ?_))
        first | refine sim_op (take_m _ _) (fun _ h => nomatch h) fun r7 b => Sim.prop fun h => ?_ | refine sim_op1 (take_m _ _) (fun _ h => nomatch h) fun r7 b => Sim.prop fun h => ?_
        subst h
        (with_reducible repeat (first | refine sA ?_ | refine sB ?_ | refine sC ?_ | refine sD ?_ | refine sE ?_ | refine sF ?_))
        (first | refine qA (fun h => ?_) fun h => ?_ | refine qB (fun h => ?_) fun h => ?_ | refine qC (fun h => ?_) fun h => ?_ | refine qD (fun h => ?_) fun h => ?_ | refine qE (fun h => ?_) fun h => ?_) -- r7
        · skip
          exact sim_outB _ rfl (by first | rfl | (simp only [Tok.kind] at *; simp_all))
        · skip
          (with_reducible repeat (first | refine sA ?_ | refine sB ?_ | refine sC ?_ | refine sD ?_ | refine sE ?_ | refine sF ?_))
          first | refine sim_op (take_m _ _) (fun _ h => nomatch h) fun r8 b => Sim.prop fun h => ?_ | refine sim_op1 (take_m _ _) (fun _ h => nomatch h) fun r8 b => Sim.prop fun h => ?_
          subst h
          (with_reducible repeat (first | refine sA ?_ | refine sB ?_ | refine sC ?_ | refine sD ?_ | refine sE ?_ | refine sF ?_))
          (first | refine qA (fun h => ?_) fun h => ?_ | refine qB (fun h => ?_) fun h => ?_ | refine qC (fun h => ?_) fun h => ?_ | refine qD (fun h => ?_) fun h => ?_ | refine qE (fun h => ?_) fun h => ?_) -- r8
          · skip
            exact sim_outB _ rfl (by first | rfl | (simp only [Tok.kind] at *; simp_all))
          · skip
            (with_reducible repeat (first | refine sA ?_ | refine sB ?_ | refine sC ?_ | refine sD ?_ | refine sE ?_ | refine sF ?_))
            first | refine sim_op (take_m _ _) (fun _ h => nomatch h) fun r9 b => Sim.prop fun h => ?_ | refine sim_op1 (take_m _ _) (fun _ h => nomatch h) fun r9 b => Sim.prop fun h => ?_
            subst h
            (with_reducible repeat (first | refine sA ?_ | refine sB ?_ | refine sC ?_ | refine sD ?_ | refine sE ?_ | refine sF ?_))
            (first | refine qA (fun h => ?_) fun h => ?_ | refine qB (fun h => ?_) fun h => ?_ | refine qC (fun h => ?_) fun h => ?_ | refine qD (fun h => ?_) fun h => ?_ | refine qE (fun h => ?_) fun h => ?_) -- r9
            · skip
              exact sim_outB _ rfl (by first | rfl | (simp only [Tok.kind] at *; simp_all))
            · skip
              (with_reducible repeat (first | refine sA ?_ | refine sB ?_ | refine sC ?_ | refine sD ?_ | refine sE ?_ | refine sF ?_))
              first | refine sim_op (take_m _ _) (fun _ h => nomatch h) fun r10 b => Sim.prop fun h => ?_ | refine sim_op1 (take_m _ _) (fun _ h => nomatch h) fun r10 b => Sim.prop fun h => ?_
              subst h
              exact sim_outB _ rfl (by first | rfl | (simp only [Tok.kind] at *; simp_all))
    · skip
      (with_reducible repeat (first | refine sA ?_ | refine sB ?_ | refine sC ?_ | refine sD ?_ | refine sE ?_ | refine sF ?_))
      (first | refine qA (fun h => ?_) fun h => ?_ | refine qB (fun h => ?_) fun h => ?_ | refine qC (fun h => ?_) fun h => ?_ | refine qD (fun h => ?_) fun h => ?_ | refine qE (fun h => ?_) fun h => ?_) -- x11.1
      · skip
        first | refine sim_joinBb ?_ fun x18 => ?_ | refine sim_joinBc ?_ fun x18 => ?_
        · skip
          refine sim_kind (by repeat (first | exact mz | apply ms)) ?_
          (with_reducible repeat (first | refine sA ?_ | refine sB ?_ | refine sC ?_ | refine sD ?_ | refine sE ?_ | refine sF ?_))
          refine qE (fun h17 => ?_) (fun h17 => ?_)
          · skip
            refine sim_kind (by repeat (first | exact mz | apply ms)) ?_
            (with_reducible repeat (first | refine sA ?_ | refine sB ?_ | refine sC ?_ | refine sD ?_ | refine sE ?_ | refine sF ?_))
            refine qE (fun h29 => ?_) (fun h29 => ?_)
            · skip
              refine sim_kind (by repeat (first | exact mz | apply ms)) ?_
              exact sim_outB _ rfl (by show cond (nr4.kind != 17 && nr4.kind != 29 && nr4.kind != 30) _ _ = _; rw [show (nr4.kind != 17) = true from h17, show (nr4.kind != 29) = true from h29]; rfl)
            · skip
              exact sim_outB _ rfl (by show cond (nr4.kind != 17 && nr4.kind != 29 && nr4.kind != 30) _ _ = _; rw [show (nr4.kind != 17) = true from h17, show (nr4.kind != 29) = false from h29]; rfl)
          · skip
            exact sim_outB _ rfl (by show cond (nr4.kind != 17 && nr4.kind != 29 && nr4.kind != 30) _ _ = _; rw [show (nr4.kind != 17) = false from h17]; rfl)
        · skip
          (with_reducible repeat (first | refine sA ?_ | refine sB ?_ | refine sC ?_ | refine sD ?_ | refine sE ?_ | refine sF ?_))
          (first | refine qA (fun h => ?_) fun h => ?_ | refine qB (fun h => ?_) fun h => ?_ | refine qC (fun h => ?_) fun h => ?_ | refine qD (fun h => ?_) fun h => ?_ | refine qE (fun h => ?_) fun h => ?_) -- x18.1
          · skip
            exact sim_fails (β1 := Unit) (Rel1 := fun _ _ _ => Fact.prop True) (fail_m _) (fun _ h => nomatch h) (by first | exact errs_fail | exact errs_failb _)
          · skip
            (with_reducible repeat (first | refine sA ?_ | refine sB ?_ | refine sC ?_ | refine sD ?_ | refine sE ?_ | refine sF ?_))
            first | refine sim_op (hR.expr _) (fun _ h => nomatch h) fun r23 nr23 => ?_ | refine sim_op1 (hR.expr _) (fun _ h => nomatch h) fun r23 nr23 => ?_
            refine sim_node [r4, r23] [nr4, nr23] rfl (by decide) (by decide) (by kernel_rfl) (fun F hF => (.cons _ _ _ _ (hF (NodeF nr4 r4) (by repeat (first | exact mz | apply ms))) (.cons _ _ _ _ (hF (NodeF nr23 r23) (by repeat (first | exact mz | apply ms))) .nil))) fun r25 => ?_
            (with_reducible repeat (first | refine sA ?_ | refine sB ?_ | refine sC ?_ | refine sD ?_ | refine sE ?_ | refine sF ?_))
            exact sim_ret1 (t := tP) _ rfl (fun F hF => hF _ (by repeat (first | exact mz | apply ms)))
      · skip
        (with_reducible repeat (first | refine sA ?_ | refine sB ?_ | refine sC ?_ | refine sD ?_ | refine sE ?_ | refine sF ?_))
        exact sim_ret1 (t := tP) _ rfl (fun F hF => hF _ (by repeat (first | exact mz | apply ms)))
end Go.Proofs.YtjlgcpgjdgeejaaGreatDoor
end

/- The trees of functions of the program, each with the proof that it is the tree of the translated code. Conditions: none. By program. -/
section
namespace Go.Proofs.YtjlgcpgjdgeejaaGreatDoor
open Go
set_option linter.unusedVariables false
set_option maxRecDepth 100000
noncomputable section
def an_parser_block : An :=
  .s (.r [none]) (.s (.r [none, some (.c (.agg [.int .i64, .str, .int .i64, .int .i64])), none, some tP, none]) (.s (.r [none, some tU]) (.s (.j [] (.b (.l [] (.s (.s (.r [none, some tB, none]) (.c (.x) (.x))) (.b (.d (.q 0 none (.q 1 none (.q 2 (some tA) (.q 3 none (.q 4 (some tSl) (.q 5 none (.l 6 (some tP) (.l 7 (some tSl) (.l 8 (some tSl) (.q 9 (some tA) (.q 10 none (.l 11 (some tU) (.e))))))))))))))))))) (.s (.r [none, some tU]) (.s (.r [none, none]) (.x))))))
def t_parser_block (a0_p : Addr) : T :=
 .op (callS F_parser_now #[.pointer (some a0_p)]) (.c (.agg [.int .i64, .str, .int .i64, .int .i64])) fun r1 =>
 .op (callS F_syntax_made #[.int .i64 63, .string kE, .int .i64 0, .int .i64 r1.2.2.1, .slice none 0 0]) tP fun r2 =>
 .op (callS F_parser_must #[.pointer (some a0_p), .string k_lc]) tU fun _ =>
 .join 0 [] (
 .loop 1 [] [] fun x4 =>
 .op (callS F_parser_is #[.pointer (some a0_p), .string k_rc]) tB fun r5 =>
 .ite (!r5) (
 .draw <|
 .opq (nilS (.pointer r2)) tA fun r6 =>
 .opq (ldS T_SPsyntax_node (.pointer (some ⟨r6.block, r6.off + 5, none⟩))) tSl fun r7 =>
 .opl (callS F_parser_statement #[.pointer (some a0_p)]) tP fun r8 =>
 .opl (sliceS T_SPsyntax_node 1 #[(0, .pointer r8)]) tSl fun r9 =>
 .opl (appS #[T_SPsyntax_node, T_SPsyntax_node] T_SPsyntax_node #[.slice r7.1 r7.2.1 r7.2.2, .slice r9.1 r9.2.1 r9.2.2]) tSl fun r10 =>
 .opq (nilS (.pointer r2)) tA fun r11 =>
 .op (stS T_SPsyntax_node (.pointer (some ⟨r11.block, r11.off + 5, none⟩)) (.slice r10.1 r10.2.1 r10.2.2)) tU fun _ =>
 .out 1 []) (
 .out 0 [])) fun x13 =>
 .op (callS F_parser_must #[.pointer (some a0_p), .string k_rc]) tU fun _ =>
 .ret #[.v (.pointer r2)]
theorem d_parser_block (a0_p : Addr) : fnT Tryz.prog Tryz.f133 an_parser_block [.pointer (some a0_p)] = t_parser_block a0_p := by kernel_rfl
theorem c_parser_block {ε σ β : Type} {I : Ifc ε σ} {t : Ty} {s : Sp ε σ β} {Rel : β → t.den → Own → Fact} {Γ : List Fact} (a0_p : Addr) (h : Sim Tryz.prog I t Rel noLabel none (t_parser_block a0_p) s [] Γ) : MeetsO Tryz.prog I (callS F_parser_block #[.pointer (some a0_p)]) t s Rel Γ :=
  meets_of_sim (args := [.pointer (some a0_p)]) Tryz.func133 rfl rfl (Nat.le_of_ble_eq_true rfl) (by rw [d_parser_block]; exact h)

def an_parser_round : An :=
  .s (.r [none]) (.s (.r [none, some tU]) (.s (.r [none, some tP, none]) (.s (.r [none, some tU]) (.s (.r [none, none]) (.x)))))
def t_parser_round (a0_p : Addr) : T :=
 .op (callS F_parser_must #[.pointer (some a0_p), .string k_lp]) tU fun _ =>
 .op (callS F_parser_expr #[.pointer (some a0_p)]) tP fun r2 =>
 .op (callS F_parser_must #[.pointer (some a0_p), .string k_rp]) tU fun _ =>
 .ret #[.v (.pointer r2)]
theorem d_parser_round (a0_p : Addr) : fnT Tryz.prog Tryz.f136 an_parser_round [.pointer (some a0_p)] = t_parser_round a0_p := by kernel_rfl
theorem c_parser_round {ε σ β : Type} {I : Ifc ε σ} {t : Ty} {s : Sp ε σ β} {Rel : β → t.den → Own → Fact} {Γ : List Fact} (a0_p : Addr) (h : Sim Tryz.prog I t Rel noLabel none (t_parser_round a0_p) s [] Γ) : MeetsO Tryz.prog I (callS F_parser_round #[.pointer (some a0_p)]) t s Rel Γ :=
  meets_of_sim (args := [.pointer (some a0_p)]) Tryz.func136 rfl rfl (Nat.le_of_ble_eq_true rfl) (by rw [d_parser_round]; exact h)

def an_parser_ended : An :=
  .s (.r [none]) (.s (.r [none, some tP, none]) (.s (.s (.j [(18, .b .bool)] (.r [none, none, none, none, some tB, none, none])) (.c (.r [none, some tP, none]) (.x))) (.s (.r [none, some tU]) (.s (.r [none, none, none, some tSl, some tP, none]) (.x)))))
def t_parser_ended (a0_p : Addr) (a1_kind : Int) (a2_at : Int) (a3_may : Bool) : T :=
 .op (callS F_parser_none #[.pointer (some a0_p)]) tP fun r1 =>
 .join 0 [.b .bool] (
 .ite (!a3_may) (
 .out 0 [.bool true]) (
 .op (callS F_parser_is #[.pointer (some a0_p), .string k_semi]) tB fun r2 =>
 .out 0 [.bool (!r2)])) fun x3 =>
 .ite x3.1 (
 .op (callS F_parser_expr #[.pointer (some a0_p)]) tP fun r4 =>
 .op (callS F_parser_must #[.pointer (some a0_p), .string k_semi]) tU fun _ =>
 .op (sliceS T_SPsyntax_node 1 #[(0, .pointer r4)]) tSl fun r6 =>
 .op (callS F_syntax_made #[.int .i64 a1_kind, .string kE, .int .i64 0, .int .i64 a2_at, .slice r6.1 r6.2.1 r6.2.2]) tP fun r7 =>
 .ret #[.v (.pointer r7)]) (
 .op (callS F_parser_must #[.pointer (some a0_p), .string k_semi]) tU fun _ =>
 .op (sliceS T_SPsyntax_node 1 #[(0, .pointer r1)]) tSl fun r9 =>
 .op (callS F_syntax_made #[.int .i64 a1_kind, .string kE, .int .i64 0, .int .i64 a2_at, .slice r9.1 r9.2.1 r9.2.2]) tP fun r10 =>
 .ret #[.v (.pointer r10)])
theorem d_parser_ended (a0_p : Addr) (a1_kind : Int) (a2_at : Int) (a3_may : Bool) : fnT Tryz.prog Tryz.f138 an_parser_ended [.pointer (some a0_p), .int .i64 a1_kind, .int .i64 a2_at, .bool a3_may] = t_parser_ended a0_p a1_kind a2_at a3_may := by kernel_rfl
theorem c_parser_ended {ε σ β : Type} {I : Ifc ε σ} {t : Ty} {s : Sp ε σ β} {Rel : β → t.den → Own → Fact} {Γ : List Fact} (a0_p : Addr) (a1_kind : Int) (a2_at : Int) (a3_may : Bool) (h : Sim Tryz.prog I t Rel noLabel none (t_parser_ended a0_p a1_kind a2_at a3_may) s [] Γ) : MeetsO Tryz.prog I (callS F_parser_ended #[.pointer (some a0_p), .int .i64 a1_kind, .int .i64 a2_at, .bool a3_may]) t s Rel Γ :=
  meets_of_sim (args := [.pointer (some a0_p), .int .i64 a1_kind, .int .i64 a2_at, .bool a3_may]) Tryz.func138 rfl rfl (Nat.le_of_ble_eq_true rfl) (by rw [d_parser_ended]; exact h)

def an_parser_statement : An :=
  .s (.r [none]) (.s (.r [none, some (.c (.agg [.int .i64, .str, .int .i64, .int .i64])), some tA, some tU]) (.s (.s (.r [none, some tI, none]) (.j [] (.c (.s (.r [none, some (.c (.agg [.int .i64, .str, .int .i64, .int .i64])), some tP, none]) (.s (.r [none, some tB]) (.c (.s (.r [none, none]) (.x)) (.x)))) (.x)))) (.s (.b (.s (.r [none, some tB, none]) (.c (.s (.r [none, some tP, none]) (.x)) (.s (.r [none, some tB, none]) (.c (.s (.r [none, some tI, some tP, none]) (.x)) (.s (.r [none, some tB, none]) (.c (.s (.r [none, some tP, none]) (.x)) (.s (.r [none, some tB, none]) (.c (.s (.r [none, some tP, none]) (.s (.d (.q 0 none (.q 1 (some tI) (.q 2 none (.q 3 none (.l 4 (some tP) (.l 5 (some tSl) (.l 6 (some tP) (.q 7 none (.e)))))))))) (.x))) (.s (.r [none, some tB, none]) (.c (.s (.r [none, none, some tI, some tP, none]) (.x)) (.s (.r [none, some tB, none]) (.c (.s (.r [none, none, some tI, some tP, none]) (.x)) (.s (.r [none, some tB, none]) (.c (.s (.r [none, none, some tI, some tP, none]) (.x)) (.s (.r [none, some tB, none]) (.c (.s (.r [none, some tU]) (.s (.r [none, some tI, some tP, none]) (.x))) (.s (.r [none, some tB, none]) (.c (.s (.r [none, some tU]) (.s (.r [none, some tI, some tP, none]) (.x))) (.s (.r [none, some tB, none]) (.c (.s (.r [none, none, some tI, some tP, none]) (.x)) (.x)))))))))))))))))))))) (.s (.r [none, none, some tI, some tP, none]) (.x)))))
def t_parser_statement (a0_a0 : Addr) : T :=
 .op (callS F_parser_now #[.pointer (some a0_a0)]) (.c (.agg [.int .i64, .str, .int .i64, .int .i64])) fun r1 =>
 .op (allocS T_api_Token) tA fun r2 =>
 .op (stS T_api_Token (.pointer (some r2)) (.agg #[.int .i64 r1.1, .string r1.2.1, .int .i64 r1.2.2.1, .int .i64 r1.2.2.2.1])) tU fun _ =>
 .op (ldS T_int (.pointer (some r2))) tI fun r4 =>
 .join 0 [] (
 .ite ((r4 : Int) == 2) (
 .op (ldS T_api_Token (.pointer (some r2))) (.c (.agg [.int .i64, .str, .int .i64, .int .i64])) fun r5 =>
 .op (callS F_parser_declaration #[.pointer (some a0_a0), .agg #[.int .i64 r5.1, .string r5.2.1, .int .i64 r5.2.2.1, .int .i64 r5.2.2.2.1]]) tP fun r6 =>
 .op (binS .neq T_Psyntax_node (.pointer r6) (.pointer none)) tB fun r7 =>
 .ite r7 (
 .ret #[.v (.pointer r6)]) (
 .out 0 [])) (
 .out 0 [])) fun x8 =>
 .op (callS F_parser_is #[.pointer (some a0_a0), .string k_lc]) tB fun r9 =>
 .ite r9 (
 .op (callS F_parser_block #[.pointer (some a0_a0)]) tP fun r10 =>
 .ret #[.v (.pointer r10)]) (
 .op (callS F_parser_take #[.pointer (some a0_a0), .string k_semi]) tB fun r11 =>
 .ite r11 (
 .op (ldS T_int (.pointer (some ⟨r2.block, r2.off + 2, none⟩))) tI fun r12 =>
 .op (callS F_syntax_made #[.int .i64 65, .string kE, .int .i64 0, .int .i64 r12, .slice none 0 0]) tP fun r13 =>
 .ret #[.v (.pointer r13)]) (
 .op (callS F_parser_is #[.pointer (some a0_a0), .string kif]) tB fun r14 =>
 .ite r14 (
 .op (callS F_parser_branch #[.pointer (some a0_a0)]) tP fun r15 =>
 .ret #[.v (.pointer r15)]) (
 .op (callS F_parser_take #[.pointer (some a0_a0), .string kwhile]) tB fun r16 =>
 .ite r16 (
 .op (callS F_parser_round #[.pointer (some a0_a0)]) tP fun r17 =>
 .draw <|
 .opq (ldS T_int (.pointer (some ⟨r2.block, r2.off + 2, none⟩))) tI fun r18 =>
 .opl (callS F_parser_block #[.pointer (some a0_a0)]) tP fun r19 =>
 .opl (sliceS T_SPsyntax_node 2 #[(0, .pointer r17), (1, .pointer r19)]) tSl fun r20 =>
 .opl (callS F_syntax_made #[.int .i64 54, .string kE, .int .i64 0, .int .i64 r18, .slice r20.1 r20.2.1 r20.2.2]) tP fun r21 =>
 .ret #[.v (.pointer r21)]) (
 .op (callS F_parser_take #[.pointer (some a0_a0), .string kfor]) tB fun r22 =>
 .ite r22 (
 .op (ldS T_int (.pointer (some ⟨r2.block, r2.off + 2, none⟩))) tI fun r23 =>
 .op (callS F_parser_loop #[.pointer (some a0_a0), .int .i64 r23]) tP fun r24 =>
 .ret #[.v (.pointer r24)]) (
 .op (callS F_parser_take #[.pointer (some a0_a0), .string kreturn]) tB fun r25 =>
 .ite r25 (
 .op (ldS T_int (.pointer (some ⟨r2.block, r2.off + 2, none⟩))) tI fun r26 =>
 .op (callS F_parser_ended #[.pointer (some a0_a0), .int .i64 57, .int .i64 r26, .bool true]) tP fun r27 =>
 .ret #[.v (.pointer r27)]) (
 .op (callS F_parser_take #[.pointer (some a0_a0), .string kthrow]) tB fun r28 =>
 .ite r28 (
 .op (ldS T_int (.pointer (some ⟨r2.block, r2.off + 2, none⟩))) tI fun r29 =>
 .op (callS F_parser_ended #[.pointer (some a0_a0), .int .i64 60, .int .i64 r29, .bool false]) tP fun r30 =>
 .ret #[.v (.pointer r30)]) (
 .op (callS F_parser_take #[.pointer (some a0_a0), .string kbreak]) tB fun r31 =>
 .ite r31 (
 .op (callS F_parser_must #[.pointer (some a0_a0), .string k_semi]) tU fun _ =>
 .op (ldS T_int (.pointer (some ⟨r2.block, r2.off + 2, none⟩))) tI fun r33 =>
 .op (callS F_syntax_made #[.int .i64 58, .string kE, .int .i64 0, .int .i64 r33, .slice none 0 0]) tP fun r34 =>
 .ret #[.v (.pointer r34)]) (
 .op (callS F_parser_take #[.pointer (some a0_a0), .string kcontinue]) tB fun r35 =>
 .ite r35 (
 .op (callS F_parser_must #[.pointer (some a0_a0), .string k_semi]) tU fun _ =>
 .op (ldS T_int (.pointer (some ⟨r2.block, r2.off + 2, none⟩))) tI fun r37 =>
 .op (callS F_syntax_made #[.int .i64 59, .string kE, .int .i64 0, .int .i64 r37, .slice none 0 0]) tP fun r38 =>
 .ret #[.v (.pointer r38)]) (
 .op (callS F_parser_take #[.pointer (some a0_a0), .string ktry]) tB fun r39 =>
 .ite r39 (
 .op (ldS T_int (.pointer (some ⟨r2.block, r2.off + 2, none⟩))) tI fun r40 =>
 .op (callS F_parser_try #[.pointer (some a0_a0), .int .i64 r40]) tP fun r41 =>
 .ret #[.v (.pointer r41)]) (
 .op (ldS T_int (.pointer (some ⟨r2.block, r2.off + 2, none⟩))) tI fun r42 =>
 .op (callS F_parser_ended #[.pointer (some a0_a0), .int .i64 64, .int .i64 r42, .bool false]) tP fun r43 =>
 .ret #[.v (.pointer r43)]))))))))))
theorem d_parser_statement (a0_a0 : Addr) : fnT Tryz.prog Tryz.f86 an_parser_statement [.pointer (some a0_a0)] = t_parser_statement a0_a0 := by kernel_rfl
theorem c_parser_statement {ε σ β : Type} {I : Ifc ε σ} {t : Ty} {s : Sp ε σ β} {Rel : β → t.den → Own → Fact} {Γ : List Fact} (a0_a0 : Addr) (h : Sim Tryz.prog I t Rel noLabel none (t_parser_statement a0_a0) s [] Γ) : MeetsO Tryz.prog I (callS F_parser_statement #[.pointer (some a0_a0)]) t s Rel Γ :=
  meets_of_sim (args := [.pointer (some a0_a0)]) Tryz.func86 rfl rfl (Nat.le_of_ble_eq_true rfl) (by rw [d_parser_statement]; exact h)

def an_parser_branch : An :=
  .s (.r [none]) (.s (.r [none, some (.c (.agg [.int .i64, .str, .int .i64, .int .i64])), none, none]) (.s (.r [none, some tU]) (.s (.r [none, some tP, none]) (.s (.r [none, some tP, none]) (.s (.r [none, some tP, none]) (.s (.s (.r [none, some tB]) (.c (.s (.r [none, some tB]) (.c (.r [none, some tP, none]) (.r [none, some tP, none]))) (.x))) (.s (.r [none, none, none, none, some tSl, some tP, none]) (.x))))))))
def t_parser_branch (a0_p : Addr) : T :=
 .op (callS F_parser_now #[.pointer (some a0_p)]) (.c (.agg [.int .i64, .str, .int .i64, .int .i64])) fun r1 =>
 .op (callS F_parser_must #[.pointer (some a0_p), .string kif]) tU fun _ =>
 .op (callS F_parser_round #[.pointer (some a0_p)]) tP fun r3 =>
 .op (callS F_parser_block #[.pointer (some a0_p)]) tP fun r4 =>
 .op (callS F_parser_none #[.pointer (some a0_p)]) tP fun r5 =>
 .op (callS F_parser_take #[.pointer (some a0_p), .string kelse]) tB fun r6 =>
 .ite r6 (
 .op (callS F_parser_is #[.pointer (some a0_p), .string kif]) tB fun r7 =>
 .ite r7 (
 .op (callS F_parser_branch #[.pointer (some a0_p)]) tP fun r8 =>
 .op (sliceS T_SPsyntax_node 3 #[(0, .pointer r3), (1, .pointer r4), (2, .pointer r8)]) tSl fun r9 =>
 .op (callS F_syntax_made #[.int .i64 53, .string kE, .int .i64 0, .int .i64 r1.2.2.1, .slice r9.1 r9.2.1 r9.2.2]) tP fun r10 =>
 .ret #[.v (.pointer r10)]) (
 .op (callS F_parser_block #[.pointer (some a0_p)]) tP fun r11 =>
 .op (sliceS T_SPsyntax_node 3 #[(0, .pointer r3), (1, .pointer r4), (2, .pointer r11)]) tSl fun r12 =>
 .op (callS F_syntax_made #[.int .i64 53, .string kE, .int .i64 0, .int .i64 r1.2.2.1, .slice r12.1 r12.2.1 r12.2.2]) tP fun r13 =>
 .ret #[.v (.pointer r13)])) (
 .op (sliceS T_SPsyntax_node 3 #[(0, .pointer r3), (1, .pointer r4), (2, .pointer r5)]) tSl fun r14 =>
 .op (callS F_syntax_made #[.int .i64 53, .string kE, .int .i64 0, .int .i64 r1.2.2.1, .slice r14.1 r14.2.1 r14.2.2]) tP fun r15 =>
 .ret #[.v (.pointer r15)])
theorem d_parser_branch (a0_p : Addr) : fnT Tryz.prog Tryz.f135 an_parser_branch [.pointer (some a0_p)] = t_parser_branch a0_p := by kernel_rfl
theorem c_parser_branch {ε σ β : Type} {I : Ifc ε σ} {t : Ty} {s : Sp ε σ β} {Rel : β → t.den → Own → Fact} {Γ : List Fact} (a0_p : Addr) (h : Sim Tryz.prog I t Rel noLabel none (t_parser_branch a0_p) s [] Γ) : MeetsO Tryz.prog I (callS F_parser_branch #[.pointer (some a0_p)]) t s Rel Γ :=
  meets_of_sim (args := [.pointer (some a0_p)]) Tryz.func135 rfl rfl (Nat.le_of_ble_eq_true rfl) (by rw [d_parser_branch]; exact h)

def an_parser_loop : An :=
  .s (.r [some tA, none]) (.s (.r [some tP, some tU]) (.s (.s (.j [(31, .b .bool)] (.r [some tP, some tB, none, some tP, some tB, none, none, some tP, some (.c (.agg [.int .i64, .str, .int .i64, .int .i64])), none, none, none, none, some tP, some (.c (.agg [.int .i64, .str, .int .i64, .int .i64])), some tB, none])) (.c (.s (.r [none]) (.s (.s (.r [some tP, some (.c (.agg [.int .i64, .str, .int .i64, .int .i64])), none, none]) (.j [(5, .b (.int .i64))] (.c (.r [none]) (.x)))) (.s (.r [some tP, some tS, none]) (.s (.r [some tP, some tU]) (.s (.r [some tP, some tP, none]) (.s (.r [some tP, some tU]) (.s (.r [none, none, none, none, some tP, some tP, some tSl, some tP, none]) (.x)))))))) (.x))) (.s (.r [some tP, some tP, none]) (.s (.s (.r [some tP, some (.c (.agg [.int .i64, .str, .int .i64, .int .i64])), none, none]) (.s (.r [some tP, some tB]) (.j [(8, .b .ptr)] (.c (.r [some tP, none, some tP, none]) (.x))))) (.s (.r [some tP, some tU]) (.s (.r [none, none]) (.s (.r [none, some tP, none]) (.s (.r [none, some tP, none]) (.s (.r [none, none, none, none, some tP, some tP, some tSl, some tP, none]) (.x))))))))))
def t_parser_loop (a0_a0 : Addr) (a1_a1 : Int) : T :=
 .op (boxS T_Psyntax_parser (.pointer (some a0_a0))) tA fun r1 =>
 .op (ldS T_Psyntax_parser (.pointer (some r1))) tP fun r2 =>
 .op (callS F_parser_must #[.pointer r2, .string k_lp]) tU fun _ =>
 .join 0 [.b .bool] (
 .op (ldS T_Psyntax_parser (.pointer (some r1))) tP fun r4 =>
 .op (callS F_parser_is #[.pointer r4, .string klet]) tB fun r5 =>
 .ite r5 (
 .op (ldS T_Psyntax_parser (.pointer (some r1))) tP fun r6 =>
 .op (callS F_parser_then #[.pointer r6, .int .i64 1]) (.c (.agg [.int .i64, .str, .int .i64, .int .i64])) fun r7 =>
 .ite ((r7.1 : Int) == 1) (
 .op (ldS T_Psyntax_parser (.pointer (some r1))) tP fun r8 =>
 .op (callS F_parser_then #[.pointer r8, .int .i64 2]) (.c (.agg [.int .i64, .str, .int .i64, .int .i64])) fun r9 =>
 .op (callS F_syntax_says #[.agg #[.int .i64 r9.1, .string r9.2.1, .int .i64 r9.2.2.1, .int .i64 r9.2.2.2.1], .string kof]) tB fun r10 =>
 .out 0 [.bool r10]) (
 .out 0 [.bool false])) (
 .op (ldS T_Psyntax_parser (.pointer (some r1))) tP fun r11 =>
 .op (callS F_parser_is #[.pointer r11, .string kconst]) tB fun r12 =>
 .ite r12 (
 .op (ldS T_Psyntax_parser (.pointer (some r1))) tP fun r13 =>
 .op (callS F_parser_then #[.pointer r13, .int .i64 1]) (.c (.agg [.int .i64, .str, .int .i64, .int .i64])) fun r14 =>
 .ite ((r14.1 : Int) == 1) (
 .op (ldS T_Psyntax_parser (.pointer (some r1))) tP fun r15 =>
 .op (callS F_parser_then #[.pointer r15, .int .i64 2]) (.c (.agg [.int .i64, .str, .int .i64, .int .i64])) fun r16 =>
 .op (callS F_syntax_says #[.agg #[.int .i64 r16.1, .string r16.2.1, .int .i64 r16.2.2.1, .int .i64 r16.2.2.2.1], .string kof]) tB fun r17 =>
 .out 0 [.bool r17]) (
 .out 0 [.bool false])) (
 .out 0 [.bool false]))) fun x18 =>
 .ite x18.1 (
 .op (ldS T_Psyntax_parser (.pointer (some r1))) tP fun r19 =>
 .op (callS F_parser_next #[.pointer r19]) (.c (.agg [.int .i64, .str, .int .i64, .int .i64])) fun r20 =>
 .join 0 [.b (.int .i64)] (
 .ite (r20.2.1.toList == kconst.toList) (
 .out 0 [.int .i64 1]) (
 .out 0 [.int .i64 0])) fun x21 =>
 .op (ldS T_Psyntax_parser (.pointer (some r1))) tP fun r22 =>
 .op (callS F_parser_name #[.pointer r22]) tS fun r23 =>
 .op (ldS T_Psyntax_parser (.pointer (some r1))) tP fun r24 =>
 .op (callS F_parser_must #[.pointer r24, .string kof]) tU fun _ =>
 .op (ldS T_Psyntax_parser (.pointer (some r1))) tP fun r26 =>
 .op (callS F_parser_expr #[.pointer r26]) tP fun r27 =>
 .op (ldS T_Psyntax_parser (.pointer (some r1))) tP fun r28 =>
 .op (callS F_parser_must #[.pointer r28, .string k_rp]) tU fun _ =>
 .op (ldS T_Psyntax_parser (.pointer (some r1))) tP fun r30 =>
 .op (callS F_parser_block #[.pointer r30]) tP fun r31 =>
 .op (sliceS T_SPsyntax_node 2 #[(0, .pointer r27), (1, .pointer r31)]) tSl fun r32 =>
 .op (callS F_syntax_made #[.int .i64 56, .string r23, .int .i64 x21.1, .int .i64 a1_a1, .slice r32.1 r32.2.1 r32.2.2]) tP fun r33 =>
 .ret #[.v (.pointer r33)]) (
 .op (ldS T_Psyntax_parser (.pointer (some r1))) tP fun r34 =>
 .op (callS F_parser_none #[.pointer r34]) tP fun r35 =>
 .op (ldS T_Psyntax_parser (.pointer (some r1))) tP fun r36 =>
 .op (callS F_parser_now #[.pointer r36]) (.c (.agg [.int .i64, .str, .int .i64, .int .i64])) fun r37 =>
 .op (ldS T_Psyntax_parser (.pointer (some r1))) tP fun r38 =>
 .op (callS F_parser_take #[.pointer r38, .string klet]) tB fun r39 =>
 .join 0 [.b .ptr] (
 .ite r39 (
 .op (ldS T_Psyntax_parser (.pointer (some r1))) tP fun r40 =>
 .op (callS F_parser_variable #[.pointer r40, .int .i64 0, .int .i64 r37.2.2.1]) tP fun r41 =>
 .out 0 [.pointer r41]) (
 .out 0 [.pointer r35])) fun x42 =>
 .op (ldS T_Psyntax_parser (.pointer (some r1))) tP fun r43 =>
 .op (callS F_parser_must #[.pointer r43, .string k_semi]) tU fun _ =>
 .op (callvS (.func (.func F_parser_loop_1) #[] #[.pointer (some r1)]) #[.string k_semi]) tP fun r45 =>
 .op (callvS (.func (.func F_parser_loop_1) #[] #[.pointer (some r1)]) #[.string k_rp]) tP fun r46 =>
 .op (ldS T_Psyntax_parser (.pointer (some r1))) tP fun r47 =>
 .op (callS F_parser_block #[.pointer r47]) tP fun r48 =>
 .op (sliceS T_SPsyntax_node 4 #[(0, .pointer x42.1), (1, .pointer r45), (2, .pointer r46), (3, .pointer r48)]) tSl fun r49 =>
 .op (callS F_syntax_made #[.int .i64 55, .string kE, .int .i64 0, .int .i64 a1_a1, .slice r49.1 r49.2.1 r49.2.2]) tP fun r50 =>
 .ret #[.v (.pointer r50)])
theorem d_parser_loop (a0_a0 : Addr) (a1_a1 : Int) : fnT Tryz.prog Tryz.f137 an_parser_loop [.pointer (some a0_a0), .int .i64 a1_a1] = t_parser_loop a0_a0 a1_a1 := by kernel_rfl
theorem c_parser_loop {ε σ β : Type} {I : Ifc ε σ} {t : Ty} {s : Sp ε σ β} {Rel : β → t.den → Own → Fact} {Γ : List Fact} (a0_a0 : Addr) (a1_a1 : Int) (h : Sim Tryz.prog I t Rel noLabel none (t_parser_loop a0_a0 a1_a1) s [] Γ) : MeetsO Tryz.prog I (callS F_parser_loop #[.pointer (some a0_a0), .int .i64 a1_a1]) t s Rel Γ :=
  meets_of_sim (args := [.pointer (some a0_a0), .int .i64 a1_a1]) Tryz.func137 rfl rfl (Nat.le_of_ble_eq_true rfl) (by rw [d_parser_loop]; exact h)

def an_parser_loop_1 : An :=
  .s (.r [none]) (.s (.r [some tP, some tP, none]) (.s (.s (.r [some tP, none, some tB, none]) (.c (.r [some tP, some tP, none]) (.x))) (.s (.r [some tP, none, some tU]) (.s (.r [none, none]) (.x)))))
def t_parser_loop_1 (a0_end : ByteArray) (a1_a1 : Addr) : T :=
 .op (ldS T_Psyntax_parser (.pointer (some a1_a1))) tP fun r1 =>
 .op (callS F_parser_none #[.pointer r1]) tP fun r2 =>
 .op (ldS T_Psyntax_parser (.pointer (some a1_a1))) tP fun r3 =>
 .op (callS F_parser_is #[.pointer r3, .string a0_end]) tB fun r4 =>
 .ite (!r4) (
 .op (ldS T_Psyntax_parser (.pointer (some a1_a1))) tP fun r5 =>
 .op (callS F_parser_expr #[.pointer r5]) tP fun r6 =>
 .op (ldS T_Psyntax_parser (.pointer (some a1_a1))) tP fun r7 =>
 .op (callS F_parser_must #[.pointer r7, .string a0_end]) tU fun _ =>
 .ret #[.v (.pointer r6)]) (
 .op (ldS T_Psyntax_parser (.pointer (some a1_a1))) tP fun r9 =>
 .op (callS F_parser_must #[.pointer r9, .string a0_end]) tU fun _ =>
 .ret #[.v (.pointer r2)])
theorem d_parser_loop_1 (a0_end : ByteArray) (a1_a1 : Addr) : fnT Tryz.prog Tryz.f189 an_parser_loop_1 [.string a0_end, .pointer (some a1_a1)] = t_parser_loop_1 a0_end a1_a1 := by kernel_rfl
theorem c_parser_loop_1 {ε σ β : Type} {I : Ifc ε σ} {t : Ty} {s : Sp ε σ β} {Rel : β → t.den → Own → Fact} {Γ : List Fact} (a0_end : ByteArray) (a1_a1 : Addr) (h : Sim Tryz.prog I t Rel noLabel none (t_parser_loop_1 a0_end a1_a1) s [] Γ) : MeetsO Tryz.prog I (callS F_parser_loop_1 #[.string a0_end, .pointer (some a1_a1)]) t s Rel Γ :=
  meets_of_sim (args := [.string a0_end, .pointer (some a1_a1)]) Tryz.func189 rfl rfl (Nat.le_of_ble_eq_true rfl) (by rw [d_parser_loop_1]; exact h)

def an_parser_variable : An :=
  .s (.r [none]) (.s (.r [none, some tS, none]) (.s (.r [none, some tP, none]) (.s (.r [none, some tU]) (.s (.r [none, none, none, none, none, some tP, some tSl, some tP, none]) (.x)))))
def t_parser_variable (a0_p : Addr) (a1_n : Int) (a2_at : Int) : T :=
 .op (callS F_parser_name #[.pointer (some a0_p)]) tS fun r1 =>
 .op (callS F_parser_optional #[.pointer (some a0_p)]) tP fun r2 =>
 .op (callS F_parser_must #[.pointer (some a0_p), .string k_eq]) tU fun _ =>
 .op (callS F_parser_expr #[.pointer (some a0_p)]) tP fun r4 =>
 .op (sliceS T_SPsyntax_node 2 #[(0, .pointer r2), (1, .pointer r4)]) tSl fun r5 =>
 .op (callS F_syntax_made #[.int .i64 40, .string r1, .int .i64 a1_n, .int .i64 a2_at, .slice r5.1 r5.2.1 r5.2.2]) tP fun r6 =>
 .ret #[.v (.pointer r6)]
theorem d_parser_variable (a0_p : Addr) (a1_n : Int) (a2_at : Int) : fnT Tryz.prog Tryz.f180 an_parser_variable [.pointer (some a0_p), .int .i64 a1_n, .int .i64 a2_at] = t_parser_variable a0_p a1_n a2_at := by kernel_rfl
theorem c_parser_variable {ε σ β : Type} {I : Ifc ε σ} {t : Ty} {s : Sp ε σ β} {Rel : β → t.den → Own → Fact} {Γ : List Fact} (a0_p : Addr) (a1_n : Int) (a2_at : Int) (h : Sim Tryz.prog I t Rel noLabel none (t_parser_variable a0_p a1_n a2_at) s [] Γ) : MeetsO Tryz.prog I (callS F_parser_variable #[.pointer (some a0_p), .int .i64 a1_n, .int .i64 a2_at]) t s Rel Γ :=
  meets_of_sim (args := [.pointer (some a0_p), .int .i64 a1_n, .int .i64 a2_at]) Tryz.func180 rfl rfl (Nat.le_of_ble_eq_true rfl) (by rw [d_parser_variable]; exact h)

def an_parser_try : An :=
  .s (.r [none]) (.s (.r [none, some tP, none]) (.s (.r [none, some tP, none]) (.s (.s (.r [none, some (.c (.agg [.int .i64, .str, .int .i64, .int .i64])), none, none]) (.s (.r [none, some tB]) (.j [(6, .b .ptr)] (.c (.s (.r [none, some tU]) (.s (.r [none, some tS, none]) (.s (.r [none, some tU]) (.r [none, none, none, some tP, some tSl, some tP, none])))) (.x))))) (.s (.r [none, some tP, none]) (.s (.s (.r [none, some tB]) (.j [(9, .b .ptr)] (.c (.r [none, some tP, none]) (.x)))) (.s (.s (.j [(50, .b .bool)] (.r [none, some tA, none, none, some tI, none, none, none, some tA, none, none, some tI, none, none])) (.c (.r [none, some tU]) (.x))) (.s (.r [none, none, none, none, some tSl, some tP, none]) (.x))))))))
def t_parser_try (a0_p : Addr) (a1_at : Int) : T :=
 .op (callS F_parser_block #[.pointer (some a0_p)]) tP fun r1 =>
 .op (callS F_parser_none #[.pointer (some a0_p)]) tP fun r2 =>
 .op (callS F_parser_now #[.pointer (some a0_p)]) (.c (.agg [.int .i64, .str, .int .i64, .int .i64])) fun r3 =>
 .op (callS F_parser_take #[.pointer (some a0_p), .string kcatch]) tB fun r4 =>
 .join 0 [.b .ptr] (
 .ite r4 (
 .op (callS F_parser_must #[.pointer (some a0_p), .string k_lp]) tU fun _ =>
 .op (callS F_parser_name #[.pointer (some a0_p)]) tS fun r6 =>
 .op (callS F_parser_must #[.pointer (some a0_p), .string k_rp]) tU fun _ =>
 .op (callS F_parser_block #[.pointer (some a0_p)]) tP fun r8 =>
 .op (sliceS T_SPsyntax_node 1 #[(0, .pointer r8)]) tSl fun r9 =>
 .op (callS F_syntax_made #[.int .i64 62, .string r6, .int .i64 0, .int .i64 r3.2.2.1, .slice r9.1 r9.2.1 r9.2.2]) tP fun r10 =>
 .out 0 [.pointer r10]) (
 .out 0 [.pointer r2])) fun x11 =>
 .op (callS F_parser_none #[.pointer (some a0_p)]) tP fun r12 =>
 .op (callS F_parser_take #[.pointer (some a0_p), .string kfinally]) tB fun r13 =>
 .join 0 [.b .ptr] (
 .ite r13 (
 .op (callS F_parser_block #[.pointer (some a0_p)]) tP fun r14 =>
 .out 0 [.pointer r14]) (
 .out 0 [.pointer r12])) fun x15 =>
 .join 0 [.b .bool] (
 .op (nilS (.pointer x11.1)) tA fun r16 =>
 .op (ldS T_int (.pointer (some r16))) tI fun r17 =>
 .ite ((r17 : Int) == 1) (
 .op (nilS (.pointer x15.1)) tA fun r18 =>
 .op (ldS T_int (.pointer (some r18))) tI fun r19 =>
 .out 0 [.bool ((r19 : Int) == 1)]) (
 .out 0 [.bool false])) fun x20 =>
 .ite x20.1 (
 .op (callS F_parser_fail #[.pointer (some a0_p)]) tU fun _ =>
 .op (sliceS T_SPsyntax_node 3 #[(0, .pointer r1), (1, .pointer x11.1), (2, .pointer x15.1)]) tSl fun r22 =>
 .op (callS F_syntax_made #[.int .i64 61, .string kE, .int .i64 0, .int .i64 a1_at, .slice r22.1 r22.2.1 r22.2.2]) tP fun r23 =>
 .ret #[.v (.pointer r23)]) (
 .op (sliceS T_SPsyntax_node 3 #[(0, .pointer r1), (1, .pointer x11.1), (2, .pointer x15.1)]) tSl fun r24 =>
 .op (callS F_syntax_made #[.int .i64 61, .string kE, .int .i64 0, .int .i64 a1_at, .slice r24.1 r24.2.1 r24.2.2]) tP fun r25 =>
 .ret #[.v (.pointer r25)])
theorem d_parser_try (a0_p : Addr) (a1_at : Int) : fnT Tryz.prog Tryz.f140 an_parser_try [.pointer (some a0_p), .int .i64 a1_at] = t_parser_try a0_p a1_at := by kernel_rfl
theorem c_parser_try {ε σ β : Type} {I : Ifc ε σ} {t : Ty} {s : Sp ε σ β} {Rel : β → t.den → Own → Fact} {Γ : List Fact} (a0_p : Addr) (a1_at : Int) (h : Sim Tryz.prog I t Rel noLabel none (t_parser_try a0_p a1_at) s [] Γ) : MeetsO Tryz.prog I (callS F_parser_try #[.pointer (some a0_p), .int .i64 a1_at]) t s Rel Γ :=
  meets_of_sim (args := [.pointer (some a0_p), .int .i64 a1_at]) Tryz.func140 rfl rfl (Nat.le_of_ble_eq_true rfl) (by rw [d_parser_try]; exact h)

def an_parser_declaration : An :=
  .s (.r [some tA, none]) (.s (.b (.s (.j [(13, .b .bool)] (.r [none, some tB, none, none, some (.c (.agg [.int .i64, .str, .int .i64, .int .i64])), some tB, none, none])) (.c (.s (.r [none, some (.c (.agg [.int .i64, .str, .int .i64, .int .i64]))]) (.s (.r [none, none, some tI, some tP, none]) (.x))) (.s (.r [none, some tB, none]) (.c (.s (.r [none, none, some tI, some tP, none]) (.s (.r [none, some tU]) (.s (.r [none, none]) (.x)))) (.s (.r [none, some tB, none]) (.c (.s (.r [none, none, some tI, some tP, none]) (.s (.r [none, some tU]) (.s (.r [none, none]) (.x)))) (.s (.r [none, some tB, none]) (.c (.s (.r [none, none, some tI, some tP, none]) (.x)) (.s (.r [none, some tB, none]) (.c (.s (.r [none, none, some tI, some tP, none]) (.x)) (.s (.r [none, some tB, none]) (.c (.s (.r [none, none, some tI, some tP, none]) (.x)) (.s (.r [none, some tB, none]) (.c (.s (.r [none, none, some tI, some tP, none]) (.x)) (.s (.r [none, some tB, none]) (.c (.s (.r [none, some tS, none]) (.s (.r [none, some tP, none]) (.s (.r [none, some tP, none]) (.s (.d (.q 0 none (.q 1 none (.q 2 (some tI) (.q 3 none (.q 4 none (.q 5 none (.l 6 (some tP) (.l 7 (some tSl) (.l 8 (some tP) (.q 9 none (.e)))))))))))) (.x))))) (.s (.r [none, some tB, none]) (.c (.s (.r [none, some tS, none]) (.s (.r [none, some tP, none]) (.s (.r [none, some tU]) (.s (.r [none, some tP, none]) (.s (.r [none, some tU]) (.s (.r [none, none, some tI, none, none, some tSl, some tP, none]) (.x))))))) (.x)))))))))))))))))))) (.s (.r [none]) (.x)))
def t_parser_declaration (a0_a0 : Addr) (a1_a1 : HB [.int .i64, .str, .int .i64, .int .i64]) : T :=
 .op (boxS T_api_Token (.agg #[.int .i64 a1_a1.1, .string a1_a1.2.1, .int .i64 a1_a1.2.2.1, .int .i64 a1_a1.2.2.2.1])) tA fun r1 =>
 .join 0 [.b .bool] (
 .op (callS F_parser_is #[.pointer (some a0_a0), .string kconst]) tB fun r2 =>
 .ite r2 (
 .op (callS F_parser_then #[.pointer (some a0_a0), .int .i64 1]) (.c (.agg [.int .i64, .str, .int .i64, .int .i64])) fun r3 =>
 .op (callS F_syntax_says #[.agg #[.int .i64 r3.1, .string r3.2.1, .int .i64 r3.2.2.1, .int .i64 r3.2.2.2.1], .string kenum]) tB fun r4 =>
 .out 0 [.bool r4]) (
 .out 0 [.bool false])) fun x5 =>
 .ite x5.1 (
 .op (callS F_parser_next #[.pointer (some a0_a0)]) (.c (.agg [.int .i64, .str, .int .i64, .int .i64])) fun r6 =>
 .op (ldS T_int (.pointer (some ⟨r1.block, r1.off + 2, none⟩))) tI fun r7 =>
 .op (callS F_parser_enum #[.pointer (some a0_a0), .int .i64 1, .int .i64 r7]) tP fun r8 =>
 .ret #[.v (.pointer r8)]) (
 .op (callS F_parser_take #[.pointer (some a0_a0), .string klet]) tB fun r9 =>
 .ite r9 (
 .op (ldS T_int (.pointer (some ⟨r1.block, r1.off + 2, none⟩))) tI fun r10 =>
 .op (callS F_parser_variable #[.pointer (some a0_a0), .int .i64 0, .int .i64 r10]) tP fun r11 =>
 .op (callS F_parser_must #[.pointer (some a0_a0), .string k_semi]) tU fun _ =>
 .ret #[.v (.pointer r11)]) (
 .op (callS F_parser_take #[.pointer (some a0_a0), .string kconst]) tB fun r13 =>
 .ite r13 (
 .op (ldS T_int (.pointer (some ⟨r1.block, r1.off + 2, none⟩))) tI fun r14 =>
 .op (callS F_parser_variable #[.pointer (some a0_a0), .int .i64 1, .int .i64 r14]) tP fun r15 =>
 .op (callS F_parser_must #[.pointer (some a0_a0), .string k_semi]) tU fun _ =>
 .ret #[.v (.pointer r15)]) (
 .op (callS F_parser_take #[.pointer (some a0_a0), .string kfunction]) tB fun r17 =>
 .ite r17 (
 .op (ldS T_int (.pointer (some ⟨r1.block, r1.off + 2, none⟩))) tI fun r18 =>
 .op (callS F_parser_function #[.pointer (some a0_a0), .int .i64 41, .int .i64 r18]) tP fun r19 =>
 .ret #[.v (.pointer r19)]) (
 .op (callS F_parser_take #[.pointer (some a0_a0), .string kclass]) tB fun r20 =>
 .ite r20 (
 .op (ldS T_int (.pointer (some ⟨r1.block, r1.off + 2, none⟩))) tI fun r21 =>
 .op (callS F_parser_class #[.pointer (some a0_a0), .int .i64 r21]) tP fun r22 =>
 .ret #[.v (.pointer r22)]) (
 .op (callS F_parser_is #[.pointer (some a0_a0), .string kenum]) tB fun r23 =>
 .ite r23 (
 .op (ldS T_int (.pointer (some ⟨r1.block, r1.off + 2, none⟩))) tI fun r24 =>
 .op (callS F_parser_enum #[.pointer (some a0_a0), .int .i64 0, .int .i64 r24]) tP fun r25 =>
 .ret #[.v (.pointer r25)]) (
 .op (callS F_parser_take #[.pointer (some a0_a0), .string knamespace]) tB fun r26 =>
 .ite r26 (
 .op (ldS T_int (.pointer (some ⟨r1.block, r1.off + 2, none⟩))) tI fun r27 =>
 .op (callS F_parser_namespace #[.pointer (some a0_a0), .int .i64 r27]) tP fun r28 =>
 .ret #[.v (.pointer r28)]) (
 .op (callS F_parser_take #[.pointer (some a0_a0), .string kinterface]) tB fun r29 =>
 .ite r29 (
 .op (callS F_parser_name #[.pointer (some a0_a0)]) tS fun r30 =>
 .op (callS F_parser_vars #[.pointer (some a0_a0)]) tP fun r31 =>
 .op (callS F_parser_refs #[.pointer (some a0_a0), .string kextends]) tP fun r32 =>
 .draw <|
 .opq (ldS T_int (.pointer (some ⟨r1.block, r1.off + 2, none⟩))) tI fun r33 =>
 .opl (callS F_parser_objectType #[.pointer (some a0_a0)]) tP fun r34 =>
 .opl (sliceS T_SPsyntax_node 3 #[(0, .pointer r31), (1, .pointer r32), (2, .pointer r34)]) tSl fun r35 =>
 .opl (callS F_syntax_made #[.int .i64 51, .string r30, .int .i64 0, .int .i64 r33, .slice r35.1 r35.2.1 r35.2.2]) tP fun r36 =>
 .ret #[.v (.pointer r36)]) (
 .op (callS F_parser_take #[.pointer (some a0_a0), .string ktype]) tB fun r37 =>
 .ite r37 (
 .op (callS F_parser_name #[.pointer (some a0_a0)]) tS fun r38 =>
 .op (callS F_parser_vars #[.pointer (some a0_a0)]) tP fun r39 =>
 .op (callS F_parser_must #[.pointer (some a0_a0), .string k_eq]) tU fun _ =>
 .op (callS F_parser_typed #[.pointer (some a0_a0)]) tP fun r41 =>
 .op (callS F_parser_must #[.pointer (some a0_a0), .string k_semi]) tU fun _ =>
 .op (ldS T_int (.pointer (some ⟨r1.block, r1.off + 2, none⟩))) tI fun r43 =>
 .op (sliceS T_SPsyntax_node 2 #[(0, .pointer r39), (1, .pointer r41)]) tSl fun r44 =>
 .op (callS F_syntax_made #[.int .i64 52, .string r38, .int .i64 0, .int .i64 r43, .slice r44.1 r44.2.1 r44.2.2]) tP fun r45 =>
 .ret #[.v (.pointer r45)]) (
 .ret #[.v (.pointer none)])))))))))
theorem d_parser_declaration (a0_a0 : Addr) (a1_a1 : HB [.int .i64, .str, .int .i64, .int .i64]) : fnT Tryz.prog Tryz.f131 an_parser_declaration [.pointer (some a0_a0), .agg #[.int .i64 a1_a1.1, .string a1_a1.2.1, .int .i64 a1_a1.2.2.1, .int .i64 a1_a1.2.2.2.1]] = t_parser_declaration a0_a0 a1_a1 := by kernel_rfl
theorem c_parser_declaration {ε σ β : Type} {I : Ifc ε σ} {t : Ty} {s : Sp ε σ β} {Rel : β → t.den → Own → Fact} {Γ : List Fact} (a0_a0 : Addr) (a1_a1 : HB [.int .i64, .str, .int .i64, .int .i64]) (h : Sim Tryz.prog I t Rel noLabel none (t_parser_declaration a0_a0 a1_a1) s [] Γ) : MeetsO Tryz.prog I (callS F_parser_declaration #[.pointer (some a0_a0), .agg #[.int .i64 a1_a1.1, .string a1_a1.2.1, .int .i64 a1_a1.2.2.1, .int .i64 a1_a1.2.2.2.1]]) t s Rel Γ :=
  meets_of_sim (args := [.pointer (some a0_a0), .agg #[.int .i64 a1_a1.1, .string a1_a1.2.1, .int .i64 a1_a1.2.2.1, .int .i64 a1_a1.2.2.2.1]]) Tryz.func131 rfl rfl (Nat.le_of_ble_eq_true rfl) (by rw [d_parser_declaration]; exact h)

def an_parser_function : An :=
  .s (.r [none]) (.s (.r [none, some tS, none]) (.s (.r [none, some tP, none]) (.s (.r [none, some tU]) (.s (.r [none, some tP, none]) (.s (.r [none, some tU]) (.s (.r [none, some tP, none]) (.s (.r [none, none, none, none, none, none, none, some tP, some tSl, some tP, none]) (.x))))))))
def t_parser_function (a0_p : Addr) (a1_kind : Int) (a2_at : Int) : T :=
 .op (callS F_parser_name #[.pointer (some a0_p)]) tS fun r1 =>
 .op (callS F_parser_vars #[.pointer (some a0_p)]) tP fun r2 =>
 .op (callS F_parser_must #[.pointer (some a0_p), .string k_lp]) tU fun _ =>
 .op (callS F_parser_params #[.pointer (some a0_p), .bool false]) tP fun r4 =>
 .op (callS F_parser_must #[.pointer (some a0_p), .string k_rp]) tU fun _ =>
 .op (callS F_parser_optional #[.pointer (some a0_p)]) tP fun r6 =>
 .op (callS F_parser_block #[.pointer (some a0_p)]) tP fun r7 =>
 .op (sliceS T_SPsyntax_node 4 #[(0, .pointer r2), (1, .pointer r4), (2, .pointer r6), (3, .pointer r7)]) tSl fun r8 =>
 .op (callS F_syntax_made #[.int .i64 a1_kind, .string r1, .int .i64 0, .int .i64 a2_at, .slice r8.1 r8.2.1 r8.2.2]) tP fun r9 =>
 .ret #[.v (.pointer r9)]
theorem d_parser_function (a0_p : Addr) (a1_kind : Int) (a2_at : Int) : fnT Tryz.prog Tryz.f181 an_parser_function [.pointer (some a0_p), .int .i64 a1_kind, .int .i64 a2_at] = t_parser_function a0_p a1_kind a2_at := by kernel_rfl
theorem c_parser_function {ε σ β : Type} {I : Ifc ε σ} {t : Ty} {s : Sp ε σ β} {Rel : β → t.den → Own → Fact} {Γ : List Fact} (a0_p : Addr) (a1_kind : Int) (a2_at : Int) (h : Sim Tryz.prog I t Rel noLabel none (t_parser_function a0_p a1_kind a2_at) s [] Γ) : MeetsO Tryz.prog I (callS F_parser_function #[.pointer (some a0_p), .int .i64 a1_kind, .int .i64 a2_at]) t s Rel Γ :=
  meets_of_sim (args := [.pointer (some a0_p), .int .i64 a1_kind, .int .i64 a2_at]) Tryz.func181 rfl rfl (Nat.le_of_ble_eq_true rfl) (by rw [d_parser_function]; exact h)

def an_parser_class : An :=
  .s (.r [none]) (.s (.r [none, some tS, none]) (.s (.r [none, some tP, none]) (.s (.r [none, some tP, none]) (.s (.s (.r [none, some (.c (.agg [.int .i64, .str, .int .i64, .int .i64])), none, none]) (.s (.r [none, some tB]) (.j [(7, .b .ptr)] (.c (.s (.r [none, some tS, none]) (.r [none, none, none, some tP, some tSl, some tP, none])) (.x))))) (.s (.r [none, some tP, none]) (.s (.r [none, some tU]) (.s (.r [none, some tP, none]) (.s (.r [none]) (.s (.j [(12, .b (.int .i64))] (.b (.l [(12, .b (.int .i64))] (.s (.s (.r [none, some tB, none]) (.c (.x) (.x))) (.b (.s (.r [none, some tP, none]) (.s (.s (.r [none, some tA, none, none, some tI, none]) (.j [(12, .b (.int .i64))] (.c (.r [none, none, none]) (.x)))) (.r [none, none, some tA, none, some tSl, none, some tSl, some tSl, some tA, none, some tU])))))))) (.s (.s (.r [none, none]) (.c (.r [none, some tU]) (.x))) (.s (.r [none, some tU]) (.s (.r [none, none, none, none, none, none, some tSl, some tP, none]) (.x)))))))))))))
def t_parser_class (a0_a0 : Addr) (a1_a1 : Int) : T :=
 .op (callS F_parser_name #[.pointer (some a0_a0)]) tS fun r1 =>
 .op (callS F_parser_vars #[.pointer (some a0_a0)]) tP fun r2 =>
 .op (callS F_parser_none #[.pointer (some a0_a0)]) tP fun r3 =>
 .op (callS F_parser_now #[.pointer (some a0_a0)]) (.c (.agg [.int .i64, .str, .int .i64, .int .i64])) fun r4 =>
 .op (callS F_parser_take #[.pointer (some a0_a0), .string kextends]) tB fun r5 =>
 .join 0 [.b .ptr] (
 .ite r5 (
 .op (callS F_parser_name #[.pointer (some a0_a0)]) tS fun r6 =>
 .op (callS F_parser_args #[.pointer (some a0_a0)]) tP fun r7 =>
 .op (sliceS T_SPsyntax_node 1 #[(0, .pointer r7)]) tSl fun r8 =>
 .op (callS F_syntax_made #[.int .i64 43, .string r6, .int .i64 0, .int .i64 r4.2.2.1, .slice r8.1 r8.2.1 r8.2.2]) tP fun r9 =>
 .out 0 [.pointer r9]) (
 .out 0 [.pointer r3])) fun x10 =>
 .op (callS F_parser_refs #[.pointer (some a0_a0), .string kimplements]) tP fun r11 =>
 .op (callS F_parser_must #[.pointer (some a0_a0), .string k_lc]) tU fun _ =>
 .op (callS F_parser_empty #[.pointer (some a0_a0)]) tP fun r13 =>
 .join 0 [.b (.int .i64)] (
 .loop 1 [.b (.int .i64)] [.int .i64 0] fun x14 =>
 .op (callS F_parser_is #[.pointer (some a0_a0), .string k_rc]) tB fun r15 =>
 .ite (!r15) (
 .op (callS F_parser_part #[.pointer (some a0_a0)]) tP fun r16 =>
 .op (nilS (.pointer r16)) tA fun r17 =>
 .op (ldS T_int (.pointer (some r17))) tI fun r18 =>
 .join 2 [.b (.int .i64)] (
 .ite ((r18 : Int) == 46) (
 .out 2 [.int .i64 (IntKind.i64.wrap (x14.1 + 1))]) (
 .out 2 [.int .i64 x14.1])) fun x19 =>
 .op (nilS (.pointer r13)) tA fun r20 =>
 .op (ldS T_SPsyntax_node (.pointer (some ⟨r20.block, r20.off + 5, none⟩))) tSl fun r21 =>
 .op (sliceS T_SPsyntax_node 1 #[(0, .pointer r16)]) tSl fun r22 =>
 .op (appS #[T_SPsyntax_node, T_SPsyntax_node] T_SPsyntax_node #[.slice r21.1 r21.2.1 r21.2.2, .slice r22.1 r22.2.1 r22.2.2]) tSl fun r23 =>
 .op (nilS (.pointer r13)) tA fun r24 =>
 .op (stS T_SPsyntax_node (.pointer (some ⟨r24.block, r24.off + 5, none⟩)) (.slice r23.1 r23.2.1 r23.2.2)) tU fun _ =>
 .out 1 [.int .i64 x19.1]) (
 .out 0 [.int .i64 x14.1])) fun x26 =>
 .ite (decide ((x26.1 : Int) > 1)) (
 .op (callS F_parser_fail #[.pointer (some a0_a0)]) tU fun _ =>
 .op (callS F_parser_must #[.pointer (some a0_a0), .string k_rc]) tU fun _ =>
 .op (sliceS T_SPsyntax_node 4 #[(0, .pointer r2), (1, .pointer x10.1), (2, .pointer r11), (3, .pointer r13)]) tSl fun r29 =>
 .op (callS F_syntax_made #[.int .i64 42, .string r1, .int .i64 0, .int .i64 a1_a1, .slice r29.1 r29.2.1 r29.2.2]) tP fun r30 =>
 .ret #[.v (.pointer r30)]) (
 .op (callS F_parser_must #[.pointer (some a0_a0), .string k_rc]) tU fun _ =>
 .op (sliceS T_SPsyntax_node 4 #[(0, .pointer r2), (1, .pointer x10.1), (2, .pointer r11), (3, .pointer r13)]) tSl fun r32 =>
 .op (callS F_syntax_made #[.int .i64 42, .string r1, .int .i64 0, .int .i64 a1_a1, .slice r32.1 r32.2.1 r32.2.2]) tP fun r33 =>
 .ret #[.v (.pointer r33)])
theorem d_parser_class (a0_a0 : Addr) (a1_a1 : Int) : fnT Tryz.prog Tryz.f182 an_parser_class [.pointer (some a0_a0), .int .i64 a1_a1] = t_parser_class a0_a0 a1_a1 := by kernel_rfl
theorem c_parser_class {ε σ β : Type} {I : Ifc ε σ} {t : Ty} {s : Sp ε σ β} {Rel : β → t.den → Own → Fact} {Γ : List Fact} (a0_a0 : Addr) (a1_a1 : Int) (h : Sim Tryz.prog I t Rel noLabel none (t_parser_class a0_a0 a1_a1) s [] Γ) : MeetsO Tryz.prog I (callS F_parser_class #[.pointer (some a0_a0), .int .i64 a1_a1]) t s Rel Γ :=
  meets_of_sim (args := [.pointer (some a0_a0), .int .i64 a1_a1]) Tryz.func182 rfl rfl (Nat.le_of_ble_eq_true rfl) (by rw [d_parser_class]; exact h)

def an_parser_part : An :=
  .s (.r [none]) (.s (.r [none, some (.c (.agg [.int .i64, .str, .int .i64, .int .i64])), none, none]) (.s (.s (.r [none, some tB]) (.c (.s (.r [none, some tU]) (.s (.r [none, some tP, none]) (.s (.r [none, some tU]) (.s (.r [none, none, none, some tP, some tSl, some tP, none]) (.x))))) (.x))) (.s (.s (.r [none, some (.c (.agg [.int .i64, .str, .int .i64, .int .i64])), some tA, some tU]) (.s (.j [(40, .b .bool)] (.r [none, some (.c (.agg [.int .i64, .str, .int .i64, .int .i64])), none, none, none, some (.c (.agg [.int .i64, .str, .int .i64, .int .i64])), some tB, none, some (.c (.agg [.int .i64, .str, .int .i64, .int .i64])), some tB, none, none])) (.c (.s (.r [none, none, some tP, none]) (.x)) (.x)))) (.s (.r [none]) (.s (.s (.r [none, some tB]) (.j [(6, .b (.int .i64))] (.c (.r [none]) (.x)))) (.s (.r [none, some tS, none]) (.s (.r [none, some tP, none]) (.s (.r [none, some tP, none]) (.s (.s (.r [none, some tB]) (.c (.r [none, some tP, none]) (.x))) (.s (.r [none, some tU]) (.s (.r [none, none, none, none, none, some tSl, some tP, none]) (.x))))))))))))
def t_parser_part (a0_a0 : Addr) : T :=
 .op (callS F_parser_now #[.pointer (some a0_a0)]) (.c (.agg [.int .i64, .str, .int .i64, .int .i64])) fun r1 =>
 .op (callS F_parser_take #[.pointer (some a0_a0), .string kconstructor]) tB fun r2 =>
 .ite r2 (
 .op (callS F_parser_must #[.pointer (some a0_a0), .string k_lp]) tU fun _ =>
 .op (callS F_parser_params #[.pointer (some a0_a0), .bool true]) tP fun r4 =>
 .op (callS F_parser_must #[.pointer (some a0_a0), .string k_rp]) tU fun _ =>
 .op (callS F_parser_block #[.pointer (some a0_a0)]) tP fun r6 =>
 .op (sliceS T_SPsyntax_node 2 #[(0, .pointer r4), (1, .pointer r6)]) tSl fun r7 =>
 .op (callS F_syntax_made #[.int .i64 46, .string kE, .int .i64 0, .int .i64 r1.2.2.1, .slice r7.1 r7.2.1 r7.2.2]) tP fun r8 =>
 .ret #[.v (.pointer r8)]) (
 .op (callS F_parser_then #[.pointer (some a0_a0), .int .i64 1]) (.c (.agg [.int .i64, .str, .int .i64, .int .i64])) fun r9 =>
 .op (allocS T_api_Token) tA fun r10 =>
 .op (stS T_api_Token (.pointer (some r10)) (.agg #[.int .i64 r9.1, .string r9.2.1, .int .i64 r9.2.2.1, .int .i64 r9.2.2.2.1])) tU fun _ =>
 .join 0 [.b .bool] (
 .op (callS F_parser_now #[.pointer (some a0_a0)]) (.c (.agg [.int .i64, .str, .int .i64, .int .i64])) fun r12 =>
 .ite ((r12.1 : Int) == 1) (
 .op (ldS T_api_Token (.pointer (some r10))) (.c (.agg [.int .i64, .str, .int .i64, .int .i64])) fun r13 =>
 .op (callS F_syntax_says #[.agg #[.int .i64 r13.1, .string r13.2.1, .int .i64 r13.2.2.1, .int .i64 r13.2.2.2.1], .string k_lp]) tB fun r14 =>
 .ite r14 (
 .out 0 [.bool true]) (
 .op (ldS T_api_Token (.pointer (some r10))) (.c (.agg [.int .i64, .str, .int .i64, .int .i64])) fun r15 =>
 .op (callS F_syntax_says #[.agg #[.int .i64 r15.1, .string r15.2.1, .int .i64 r15.2.2.1, .int .i64 r15.2.2.2.1], .string k_lt]) tB fun r16 =>
 .out 0 [.bool r16])) (
 .out 0 [.bool false])) fun x17 =>
 .ite x17.1 (
 .op (callS F_parser_function #[.pointer (some a0_a0), .int .i64 45, .int .i64 r1.2.2.1]) tP fun r18 =>
 .ret #[.v (.pointer r18)]) (
 .op (callS F_parser_take #[.pointer (some a0_a0), .string kreadonly]) tB fun r19 =>
 .join 0 [.b (.int .i64)] (
 .ite r19 (
 .out 0 [.int .i64 4]) (
 .out 0 [.int .i64 0])) fun x20 =>
 .op (callS F_parser_name #[.pointer (some a0_a0)]) tS fun r21 =>
 .op (callS F_parser_optional #[.pointer (some a0_a0)]) tP fun r22 =>
 .op (callS F_parser_none #[.pointer (some a0_a0)]) tP fun r23 =>
 .op (callS F_parser_take #[.pointer (some a0_a0), .string k_eq]) tB fun r24 =>
 .ite r24 (
 .op (callS F_parser_expr #[.pointer (some a0_a0)]) tP fun r25 =>
 .op (callS F_parser_must #[.pointer (some a0_a0), .string k_semi]) tU fun _ =>
 .op (sliceS T_SPsyntax_node 2 #[(0, .pointer r22), (1, .pointer r25)]) tSl fun r27 =>
 .op (callS F_syntax_made #[.int .i64 44, .string r21, .int .i64 x20.1, .int .i64 r1.2.2.1, .slice r27.1 r27.2.1 r27.2.2]) tP fun r28 =>
 .ret #[.v (.pointer r28)]) (
 .op (callS F_parser_must #[.pointer (some a0_a0), .string k_semi]) tU fun _ =>
 .op (sliceS T_SPsyntax_node 2 #[(0, .pointer r22), (1, .pointer r23)]) tSl fun r30 =>
 .op (callS F_syntax_made #[.int .i64 44, .string r21, .int .i64 x20.1, .int .i64 r1.2.2.1, .slice r30.1 r30.2.1 r30.2.2]) tP fun r31 =>
 .ret #[.v (.pointer r31)])))
theorem d_parser_part (a0_a0 : Addr) : fnT Tryz.prog Tryz.f216 an_parser_part [.pointer (some a0_a0)] = t_parser_part a0_a0 := by kernel_rfl
theorem c_parser_part {ε σ β : Type} {I : Ifc ε σ} {t : Ty} {s : Sp ε σ β} {Rel : β → t.den → Own → Fact} {Γ : List Fact} (a0_a0 : Addr) (h : Sim Tryz.prog I t Rel noLabel none (t_parser_part a0_a0) s [] Γ) : MeetsO Tryz.prog I (callS F_parser_part #[.pointer (some a0_a0)]) t s Rel Γ :=
  meets_of_sim (args := [.pointer (some a0_a0)]) Tryz.func216 rfl rfl (Nat.le_of_ble_eq_true rfl) (by rw [d_parser_part]; exact h)

def an_parser_enum : An :=
  .s (.r [none]) (.b (.s (.r [none, some tU]) (.s (.r [none, some tS, none, none, some tP, none]) (.s (.r [none, some tU]) (.s (.x) (.s (.j [] (.b (.l [] (.s (.s (.r [none, some tB, none]) (.c (.x) (.x))) (.b (.s (.r [none, some (.c (.agg [.int .i64, .str, .int .i64, .int .i64])), none, none]) (.s (.r [none, some tS, none]) (.s (.r [none, some tP, none]) (.s (.s (.r [none, some tB]) (.j [(10, .b .ptr)] (.c (.r [none, some tP, none]) (.x)))) (.s (.d (.q 0 none (.q 1 none (.q 2 (some tA) (.q 3 none (.q 4 (some tSl) (.q 5 none (.q 6 none (.q 7 none (.l 8 (some tSl) (.l 9 (some tP) (.l 10 (some tSl) (.l 11 (some tSl) (.q 12 (some tA) (.q 13 none (.l 14 (some tU) (.e))))))))))))))))) (.s (.r [none, some tB, none]) (.c (.x) (.x))))))))))))) (.s (.r [none, some tU]) (.s (.r [none, none]) (.x)))))))))
def t_parser_enum (a0_p : Addr) (a1_n : Int) (a2_at : Int) : T :=
 .op (callS F_parser_must #[.pointer (some a0_p), .string kenum]) tU fun _ =>
 .op (callS F_parser_name #[.pointer (some a0_p)]) tS fun r2 =>
 .op (callS F_syntax_made #[.int .i64 47, .string r2, .int .i64 a1_n, .int .i64 a2_at, .slice none 0 0]) tP fun r3 =>
 .op (callS F_parser_must #[.pointer (some a0_p), .string k_lc]) tU fun _ =>
 .join 0 [] (
 .loop 1 [] [] fun x5 =>
 .op (callS F_parser_is #[.pointer (some a0_p), .string k_rc]) tB fun r6 =>
 .ite (!r6) (
 .op (callS F_parser_now #[.pointer (some a0_p)]) (.c (.agg [.int .i64, .str, .int .i64, .int .i64])) fun r7 =>
 .op (callS F_parser_name #[.pointer (some a0_p)]) tS fun r8 =>
 .op (callS F_parser_none #[.pointer (some a0_p)]) tP fun r9 =>
 .op (callS F_parser_take #[.pointer (some a0_p), .string k_eq]) tB fun r10 =>
 .join 2 [.b .ptr] (
 .ite r10 (
 .op (callS F_parser_expr #[.pointer (some a0_p)]) tP fun r11 =>
 .out 2 [.pointer r11]) (
 .out 2 [.pointer r9])) fun x12 =>
 .draw <|
 .opq (nilS (.pointer r3)) tA fun r13 =>
 .opq (ldS T_SPsyntax_node (.pointer (some ⟨r13.block, r13.off + 5, none⟩))) tSl fun r14 =>
 .opl (sliceS T_SPsyntax_node 1 #[(0, .pointer x12.1)]) tSl fun r15 =>
 .opl (callS F_syntax_made #[.int .i64 48, .string r8, .int .i64 0, .int .i64 r7.2.2.1, .slice r15.1 r15.2.1 r15.2.2]) tP fun r16 =>
 .opl (sliceS T_SPsyntax_node 1 #[(0, .pointer r16)]) tSl fun r17 =>
 .opl (appS #[T_SPsyntax_node, T_SPsyntax_node] T_SPsyntax_node #[.slice r14.1 r14.2.1 r14.2.2, .slice r17.1 r17.2.1 r17.2.2]) tSl fun r18 =>
 .opq (nilS (.pointer r3)) tA fun r19 =>
 .op (stS T_SPsyntax_node (.pointer (some ⟨r19.block, r19.off + 5, none⟩)) (.slice r18.1 r18.2.1 r18.2.2)) tU fun _ =>
 .op (callS F_parser_take #[.pointer (some a0_p), .string k_comma]) tB fun r21 =>
 .ite (!r21) (
 .out 0 []) (
 .out 1 [])) (
 .out 0 [])) fun x22 =>
 .op (callS F_parser_must #[.pointer (some a0_p), .string k_rc]) tU fun _ =>
 .ret #[.v (.pointer r3)]
theorem d_parser_enum (a0_p : Addr) (a1_n : Int) (a2_at : Int) : fnT Tryz.prog Tryz.f179 an_parser_enum [.pointer (some a0_p), .int .i64 a1_n, .int .i64 a2_at] = t_parser_enum a0_p a1_n a2_at := by kernel_rfl
theorem c_parser_enum {ε σ β : Type} {I : Ifc ε σ} {t : Ty} {s : Sp ε σ β} {Rel : β → t.den → Own → Fact} {Γ : List Fact} (a0_p : Addr) (a1_n : Int) (a2_at : Int) (h : Sim Tryz.prog I t Rel noLabel none (t_parser_enum a0_p a1_n a2_at) s [] Γ) : MeetsO Tryz.prog I (callS F_parser_enum #[.pointer (some a0_p), .int .i64 a1_n, .int .i64 a2_at]) t s Rel Γ :=
  meets_of_sim (args := [.pointer (some a0_p), .int .i64 a1_n, .int .i64 a2_at]) Tryz.func179 rfl rfl (Nat.le_of_ble_eq_true rfl) (by rw [d_parser_enum]; exact h)

def an_parser_namespace : An :=
  .s (.r [none]) (.s (.r [none, some tS, none, some tP, none]) (.s (.r [none, some tU]) (.s (.j [] (.b (.l [] (.s (.s (.r [none, some tB, none]) (.c (.x) (.x))) (.b (.s (.r [none, some (.c (.agg [.int .i64, .str, .int .i64, .int .i64])), some tA, some tU]) (.s (.s (.r [none, some tB, none]) (.c (.s (.d (.q 0 none (.q 1 none (.q 2 (some tA) (.q 3 none (.q 4 (some tSl) (.q 5 none (.l 6 (some tP) (.l 7 (some tSl) (.l 8 (some tSl) (.q 9 (some tA) (.q 10 none (.l 11 (some tU) (.e)))))))))))))) (.x)) (.x))) (.s (.s (.j [(40, .b .bool)] (.r [none, some tB, none, none, some (.c (.agg [.int .i64, .str, .int .i64, .int .i64])), none, none, none])) (.j [] (.c (.r [none, some tU]) (.x)))) (.s (.r [none, none, some (.c (.agg [.int .i64, .str, .int .i64, .int .i64])), some tP, none]) (.s (.s (.j [(64, .b .bool)] (.r [none, some tB, none, none, some tA, none, none, some tI, none, none, none, some tA, none, none, some tI, none, none, none])) (.j [] (.c (.r [none, some tU]) (.x)))) (.d (.q 0 none (.q 1 none (.q 2 (some tA) (.q 3 none (.q 4 (some tSl) (.q 5 none (.q 6 (some tI) (.q 7 none (.l 8 (some tSl) (.l 9 (some tP) (.l 10 (some tSl) (.l 11 (some tSl) (.q 12 (some tA) (.q 13 none (.l 14 (some tU) (.e))))))))))))))))))))))))))) (.s (.r [none, some tU]) (.s (.r [none, none]) (.x))))))
def t_parser_namespace (a0_a0 : Addr) (a1_a1 : Int) : T :=
 .op (callS F_parser_name #[.pointer (some a0_a0)]) tS fun r1 =>
 .op (callS F_syntax_made #[.int .i64 49, .string r1, .int .i64 0, .int .i64 a1_a1, .slice none 0 0]) tP fun r2 =>
 .op (callS F_parser_must #[.pointer (some a0_a0), .string k_lc]) tU fun _ =>
 .join 0 [] (
 .loop 1 [] [] fun x4 =>
 .op (callS F_parser_is #[.pointer (some a0_a0), .string k_rc]) tB fun r5 =>
 .ite (!r5) (
 .op (callS F_parser_now #[.pointer (some a0_a0)]) (.c (.agg [.int .i64, .str, .int .i64, .int .i64])) fun r6 =>
 .op (allocS T_api_Token) tA fun r7 =>
 .op (stS T_api_Token (.pointer (some r7)) (.agg #[.int .i64 r6.1, .string r6.2.1, .int .i64 r6.2.2.1, .int .i64 r6.2.2.2.1])) tU fun _ =>
 .op (callS F_parser_take #[.pointer (some a0_a0), .string kexport]) tB fun r9 =>
 .ite (!r9) (
 .draw <|
 .opq (nilS (.pointer r2)) tA fun r10 =>
 .opq (ldS T_SPsyntax_node (.pointer (some ⟨r10.block, r10.off + 5, none⟩))) tSl fun r11 =>
 .opl (callS F_parser_statement #[.pointer (some a0_a0)]) tP fun r12 =>
 .opl (sliceS T_SPsyntax_node 1 #[(0, .pointer r12)]) tSl fun r13 =>
 .opl (appS #[T_SPsyntax_node, T_SPsyntax_node] T_SPsyntax_node #[.slice r11.1 r11.2.1 r11.2.2, .slice r13.1 r13.2.1 r13.2.2]) tSl fun r14 =>
 .opq (nilS (.pointer r2)) tA fun r15 =>
 .op (stS T_SPsyntax_node (.pointer (some ⟨r15.block, r15.off + 5, none⟩)) (.slice r14.1 r14.2.1 r14.2.2)) tU fun _ =>
 .out 1 []) (
 .join 2 [.b .bool] (
 .op (callS F_parser_is #[.pointer (some a0_a0), .string klet]) tB fun r17 =>
 .ite r17 (
 .out 2 [.bool true]) (
 .op (callS F_parser_now #[.pointer (some a0_a0)]) (.c (.agg [.int .i64, .str, .int .i64, .int .i64])) fun r18 =>
 .out 2 [.bool ((r18.1 : Int) != 2)])) fun x19 =>
 .join 2 [] (
 .ite x19.1 (
 .op (callS F_parser_fail #[.pointer (some a0_a0)]) tU fun _ =>
 .out 2 []) (
 .out 2 [])) fun x21 =>
 .op (callS F_parser_now #[.pointer (some a0_a0)]) (.c (.agg [.int .i64, .str, .int .i64, .int .i64])) fun r22 =>
 .op (callS F_parser_declaration #[.pointer (some a0_a0), .agg #[.int .i64 r22.1, .string r22.2.1, .int .i64 r22.2.2.1, .int .i64 r22.2.2.2.1]]) tP fun r23 =>
 .join 2 [.b .bool] (
 .op (binS .eql T_Psyntax_node (.pointer r23) (.pointer none)) tB fun r24 =>
 .ite r24 (
 .out 2 [.bool true]) (
 .op (nilS (.pointer r23)) tA fun r25 =>
 .op (ldS T_int (.pointer (some r25))) tI fun r26 =>
 .ite ((r26 : Int) == 47) (
 .op (nilS (.pointer r23)) tA fun r27 =>
 .op (ldS T_int (.pointer (some ⟨r27.block, r27.off + 2, none⟩))) tI fun r28 =>
 .out 2 [.bool ((r28 : Int) == 1)]) (
 .out 2 [.bool false]))) fun x29 =>
 .join 2 [] (
 .ite x29.1 (
 .op (callS F_parser_fail #[.pointer (some a0_a0)]) tU fun _ =>
 .out 2 []) (
 .out 2 [])) fun x31 =>
 .draw <|
 .opq (nilS (.pointer r2)) tA fun r32 =>
 .opq (ldS T_SPsyntax_node (.pointer (some ⟨r32.block, r32.off + 5, none⟩))) tSl fun r33 =>
 .opq (ldS T_int (.pointer (some ⟨r7.block, r7.off + 2, none⟩))) tI fun r34 =>
 .opl (sliceS T_SPsyntax_node 1 #[(0, .pointer r23)]) tSl fun r35 =>
 .opl (callS F_syntax_made #[.int .i64 50, .string kE, .int .i64 0, .int .i64 r34, .slice r35.1 r35.2.1 r35.2.2]) tP fun r36 =>
 .opl (sliceS T_SPsyntax_node 1 #[(0, .pointer r36)]) tSl fun r37 =>
 .opl (appS #[T_SPsyntax_node, T_SPsyntax_node] T_SPsyntax_node #[.slice r33.1 r33.2.1 r33.2.2, .slice r37.1 r37.2.1 r37.2.2]) tSl fun r38 =>
 .opq (nilS (.pointer r2)) tA fun r39 =>
 .op (stS T_SPsyntax_node (.pointer (some ⟨r39.block, r39.off + 5, none⟩)) (.slice r38.1 r38.2.1 r38.2.2)) tU fun _ =>
 .out 1 [])) (
 .out 0 [])) fun x41 =>
 .op (callS F_parser_must #[.pointer (some a0_a0), .string k_rc]) tU fun _ =>
 .ret #[.v (.pointer r2)]
theorem d_parser_namespace (a0_a0 : Addr) (a1_a1 : Int) : fnT Tryz.prog Tryz.f183 an_parser_namespace [.pointer (some a0_a0), .int .i64 a1_a1] = t_parser_namespace a0_a0 a1_a1 := by kernel_rfl
theorem c_parser_namespace {ε σ β : Type} {I : Ifc ε σ} {t : Ty} {s : Sp ε σ β} {Rel : β → t.den → Own → Fact} {Γ : List Fact} (a0_a0 : Addr) (a1_a1 : Int) (h : Sim Tryz.prog I t Rel noLabel none (t_parser_namespace a0_a0 a1_a1) s [] Γ) : MeetsO Tryz.prog I (callS F_parser_namespace #[.pointer (some a0_a0), .int .i64 a1_a1]) t s Rel Γ :=
  meets_of_sim (args := [.pointer (some a0_a0), .int .i64 a1_a1]) Tryz.func183 rfl rfl (Nat.le_of_ble_eq_true rfl) (by rw [d_parser_namespace]; exact h)
end
end Go.Proofs.YtjlgcpgjdgeejaaGreatDoor
end
